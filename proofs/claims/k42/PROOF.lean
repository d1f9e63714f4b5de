import PyProof.Rows.All
import Wide.All
import OpenK.AllK
import Wide.FinOn
import HandS.ForMost
import HandS.ForExc
import HandS.IsInst
import HandS.NoneIn
import HandS.TupAny
import HandS.TupMul
import HandS.SetFor
import HandS.Deep
import HandS.Zip
import HandS.Style
import HandS.Flow
import HandS.Lambda
import HandS.SortInts
import HandS.Conv
import KE.KSortedM
import HandS.Remove
import HandS.Defaults
import HandS.Small
import HandS.ExcInit
import HandS.ExcOwn
import KE.GoesEnum
import KE.GoesMore
import HandS.ExcField
import HandS.ExcIs
import KE.KExcIs
import HandS.HeadHook1
import HandS.HeadHook2
import HandS.HeadHook3
import HandS.HeadHook4
import PySem.Challenge.RW_cardturns_k42_news_along_rows
import HandS.Ends
import HandS.Words
import HandS.WordsExc
import HandS.Head0
import HandS.Head1
import HandS.Head2
import HandS.HeadEnd
import HandS.HeadWalk
import HandS.EndTab
section
set_option Elab.async false
set_option linter.all false
set_option maxRecDepth 100000
set_option maxHeartbeats 400000
namespace Sim
open PySem PySem.Spec PyProof.Rows L2
abbrev D := PyData
structure Exn where
  name : Str
  args : List (Str × D)
inductive R (α : Type) where
  | ok (a : α) | exn (x : Exn) | stuck
def R.post {α : Type} (r : R α) (p : α → Prop) (q : Exn → Prop) : Prop := match r with
  | .ok a => p a
  | .exn x => q x
  | .stuck => False
theorem R.post_mono {α : Type} {r : R α} {p p' : α → Prop} {q q' : Exn → Prop} (h : r.post p q) (hp : ∀ a, p a → p' a) (hq : ∀ x, q x → q' x) : r.post p' q' := by
  cases r with
  | ok a => exact hp a h
  | exn x => exact hq x h
  | stuck => exact h
/-- a run over the threaded list -/
def M (α : Type) := List D → R (α × List D)
namespace M
def pure {α : Type} (a : α) : M α := fun s => .ok (a, s)
def bind {α β : Type} (m : M α) (f : α → M β) : M β := fun s => match m s with
  | .ok (a, s') => f a s'
  | .exn x => .exn x
  | .stuck => .stuck
def raise {α : Type} (x : Exn) : M α := fun _ => .exn x
def stuck {α : Type} : M α := fun _ => .stuck
def lift {α : Type} (r : R α) : M α := fun s => match r with
  | .ok a => .ok (a, s)
  | .exn x => .exn x
  | .stuck => .stuck
/-- an option's value, or stuck -/
def opt {α : Type} (o : Option α) : M α := match o with
  | some a => pure a
  | none => stuck
/-- no exception leaves -/
def nox {α : Type} (m : M α) : M α := fun s => match m s with
  | .ok r => .ok r
  | _ => .stuck
/-- a run without the threaded list -/
def pur {α : Type} (m : M α) : M α := fun s => match m [] with
  | .ok (a, _) => .ok (a, s)
  | .exn x => .exn x
  | .stuck => .stuck
@[simp] theorem pure_bind {α β : Type} (a : α) (f : α → M β) : bind (pure a) f = f a := rfl
@[simp] theorem bind_pure {α : Type} (m : M α) : bind m pure = m := by
  funext s
  unfold bind pure
  split <;> simp_all
@[simp] theorem bind_assoc {α β γ : Type} (m : M α) (f : α → M β) (g : β → M γ) : bind (bind m f) g = bind m fun a => bind (f a) g := by
  funext s
  unfold bind
  cases m s with
  | ok r => rfl
  | exn x => rfl
  | stuck => rfl
@[simp] theorem raise_bind {α β : Type} (x : Exn) (f : α → M β) : bind (raise x) f = raise x := rfl
@[simp] theorem stuck_bind {α β : Type} (f : α → M β) : bind (stuck : M α) f = stuck := rfl
@[simp] theorem lift_ok {α : Type} (a : α) : lift (.ok a) = pure a := rfl
@[simp] theorem lift_stuck {α : Type} : lift (.stuck : R α) = stuck := rfl
@[simp] theorem lift_exn {α : Type} (x : Exn) : lift (.exn x : R α) = raise x := rfl
@[simp] theorem opt_some {α : Type} (a : α) : opt (some a) = pure a := rfl
@[simp] theorem opt_none {α : Type} : opt (none : Option α) = stuck := rfl
@[simp] theorem nox_pure {α : Type} (a : α) : nox (pure a) = pure a := rfl
@[simp] theorem pur_pure {α : Type} (a : α) : pur (pure a) = pure a := rfl
@[simp] theorem pur_raise {α : Type} (x : Exn) : pur (raise x : M α) = raise x := rfl
@[simp] theorem pur_stuck {α : Type} : pur (stuck : M α) = stuck := rfl
end M

/-! ### what a value stands for -/
mutual
inductive Rp (K : PySem.W.Frag) (H : Hp) : V → D → Prop
  | non : Rp K H .non .none
  | bl (b : Bool) : Rp K H (.bl b) (.bool b)
  | int (i : Int) : Rp K H (.int i) (.int i)
  | str (x : Str) : Rp K H (.str x) (.str x)
  | lst {a : Addr} {xs : List V} {ds : List D} : H a = some (.lst xs) → Rps K H xs ds → Rp K H (.ref a) (.list ds)
  | tup {a : Addr} {xs : List V} {ds : List D} : H a = some (.tup xs) → Rps K H xs ds → Rp K H (.ref a) (.tuple ds)
  | dct {a : Addr} {kvs : List (Key × V)} {kds : List (D × D)} : H a = some (.dK kvs) → Rpk K H kvs kds → Rp K H (.ref a) (.dict kds)
inductive Rps (K : PySem.W.Frag) (H : Hp) : List V → List D → Prop
  | nil : Rps K H [] []
  | cons {v : V} {vs : List V} {d : D} {ds : List D} : Rp K H v d → Rps K H vs ds → Rps K H (v :: vs) (d :: ds)
inductive Rpk (K : PySem.W.Frag) (H : Hp) : List (Key × V) → List (D × D) → Prop
  | nil : Rpk K H [] []
  | cons {k : Key} {v : V} {kvs : List (Key × V)} {kd d : D} {ds : List (D × D)} : Rp K H (kV k) kd → Rp K H v d → Rpk K H kvs ds → Rpk K H ((k, v) :: kvs) ((kd, d) :: ds)
end
theorem SqL.same {K : PySem.W.Frag} {H H' : Hp} {a : Addr} {xs : List V} (s : Same H H') (h : SqL K H a xs) : SqL K H' a xs := s.seq h
theorem SqT.same {K : PySem.W.Frag} {H H' : Hp} {a : Addr} {xs : List V} (s : Same H H') (h : SqT K H a xs) : SqT K H' a xs := by
  rcases h with (h | ⟨o, h⟩) | h
  · exact .inl (.inl (s _ _ h))
  · exact .inl (.inr ⟨o, s _ _ h⟩)
  · exact .inr h
section
variable {K : PySem.W.Frag} {H H' : Hp}
mutual
theorem Rp.mono (s : Same H H') : ∀ {v : V} {d : D}, Rp K H v d → Rp K H' v d
  | _, _, .non => .non
  | _, _, .bl b => .bl b
  | _, _, .int i => .int i
  | _, _, .str x => .str x
  | _, _, .lst h r => .lst (s _ _ h) (Rps.mono s r)
  | _, _, .tup h r => .tup (s _ _ h) (Rps.mono s r)
  | _, _, .dct h r => .dct (s _ _ h) (Rpk.mono s r)
theorem Rps.mono (s : Same H H') : ∀ {v : List V} {d : List D}, Rps K H v d → Rps K H' v d
  | _, _, .nil => .nil
  | _, _, .cons a b => .cons (Rp.mono s a) (Rps.mono s b)
theorem Rpk.mono (s : Same H H') : ∀ {v : List (Key × V)} {d : List (D × D)}, Rpk K H v d → Rpk K H' v d
  | _, _, .nil => .nil
  | _, _, .cons a b c => .cons (Rp.mono s a) (Rp.mono s b) (Rpk.mono s c)
end
theorem Rps.length : ∀ {vs : List V} {ds : List D}, Rps K H vs ds → vs.length = ds.length
  | _, _, .nil => rfl
  | _, _, .cons _ r => by simp [Rps.length r]
theorem Rps.append : ∀ {vs ws : List V} {ds es : List D}, Rps K H vs ds → Rps K H ws es → Rps K H (vs ++ ws) (ds ++ es)
  | _, _, _, _, .nil, q => q
  | _, _, _, _, .cons a r, q => .cons a (Rps.append r q)
theorem Rps.get : ∀ {vs : List V} {ds : List D} {i : Nat} {v : V}, Rps K H vs ds → vs[i]? = some v → ∃ d, ds[i]? = some d ∧ Rp K H v d
  | _, _, _, _, .nil, h => by simp at h
  | _, _, 0, _, .cons a _, h => by simp at h; subst h; exact ⟨_, rfl, a⟩
  | _, _, i + 1, _, .cons _ r, h => by
    obtain ⟨d, h1, h2⟩ := Rps.get (i := i) r (by simpa using h)
    exact ⟨d, by simpa using h1, h2⟩
theorem Rps.get' : ∀ {vs : List V} {ds : List D} {i : Nat} {d : D}, Rps K H vs ds → ds[i]? = some d → ∃ v, vs[i]? = some v ∧ Rp K H v d
  | _, _, _, _, .nil, h => by simp at h
  | _, _, 0, _, .cons a _, h => by simp at h; subst h; exact ⟨_, rfl, a⟩
  | _, _, i + 1, _, .cons _ r, h => by
    obtain ⟨d, h1, h2⟩ := Rps.get' (i := i) r (by simpa using h)
    exact ⟨d, by simpa using h1, h2⟩
theorem Rps.drop : ∀ {vs : List V} {ds : List D} (n : Nat), Rps K H vs ds → Rps K H (vs.drop n) (ds.drop n)
  | _, _, 0, r => r
  | _, _, _ + 1, .nil => .nil
  | _, _, n + 1, .cons _ r => Rps.drop n r
theorem Rps.take : ∀ {vs : List V} {ds : List D} (n : Nat), Rps K H vs ds → Rps K H (vs.take n) (ds.take n)
  | _, _, 0, _ => .nil
  | _, _, _ + 1, .nil => .nil
  | _, _, n + 1, .cons a r => .cons a (Rps.take n r)
theorem Rps.set {v : V} {d : D} (a : Rp K H v d) : ∀ {vs : List V} {ds : List D} (i : Nat), Rps K H vs ds → Rps K H (vs.set i v) (ds.set i d)
  | _, _, _, .nil => .nil
  | _, _, 0, .cons _ r => .cons a r
  | _, _, i + 1, .cons b r => .cons b (Rps.set a i r)
theorem Rps.eraseIdx : ∀ {vs : List V} {ds : List D} (i : Nat), Rps K H vs ds → Rps K H (vs.eraseIdx i) (ds.eraseIdx i)
  | _, _, _, .nil => .nil
  | _, _, 0, .cons _ r => r
  | _, _, i + 1, .cons b r => .cons b (Rps.eraseIdx i r)
theorem Rps.reverse : ∀ {vs : List V} {ds : List D}, Rps K H vs ds → Rps K H vs.reverse ds.reverse
  | _, _, .nil => .nil
  | _, _, .cons a r => by
    rw [List.reverse_cons, List.reverse_cons]
    exact (Rps.reverse r).append (.cons a .nil)
theorem Rps.ints : ∀ {vs : List V} {ns : List Int}, Rps K H vs (ns.map PyData.int) → vs = ns.map V.int
  | [], [], _ => rfl
  | [], _ :: _, h => by cases h
  | _ :: _, [], h => by cases h
  | v :: vs, n :: ns, h => by
    cases h with
    | cons a r =>
      cases a
      rw [List.map_cons, Rps.ints r]
end

inductive Rpf (K : PySem.W.Frag) (H : Hp) : List (Str × V) → List (Str × D) → Prop
  | nil : Rpf K H [] []
  | cons {x : Str} {v : V} {d : D} {vs : List (Str × V)} {ds : List (Str × D)} : Rp K H v d → Rpf K H vs ds → Rpf K H ((x, v) :: vs) ((x, d) :: ds)
theorem Rpf.mono {K : PySem.W.Frag} {H H' : Hp} (s : Same H H') {v : List (Str × V)} {d : List (Str × D)} (h : Rpf K H v d) : Rpf K H' v d := by
  induction h with
  | nil => exact .nil
  | cons a _ ih => exact .cons (a.mono s) ih
/-- an error's fields -/
def ErrOk (K : PySem.W.Frag) (G : Hp) (dx : Option Addr) (as : List (Str × D)) : Prop := (as = [] ∧ dx = none) ∨ ∃ d fs, dx = some d ∧ G d = some (.xd fs) ∧ Rpf K G fs as
theorem ErrOk.mono {K : PySem.W.Frag} {G G' : Hp} {dx : Option Addr} {as : List (Str × D)} (g : Same G G') (h : ErrOk K G dx as) : ErrOk K G' dx as := h.imp id fun ⟨d, fs, e1, e2, e3⟩ => ⟨d, fs, e1, g _ _ e2, e3.mono g⟩
/-! ### the parts that a run leans on -/
structure Fx where
  K : PySem.W.Frag
  mg : Str → Option Value
  T : List (Addr × Str)
/-- no table of code objects -/
def NT (o : HO) : Prop := ∀ ps, o ≠ .tbl ps
theorem nt_lst {vs : List V} : NT (.lst vs) := fun _ h => by cases h
theorem nt_tup {vs : List V} : NT (.tup vs) := fun _ h => by cases h
theorem nt_dK {kvs : List (Key × V)} : NT (.dK kvs) := fun _ h => by cases h
theorem nt_xd {fs : List (Str × V)} : NT (.xd fs) := fun _ h => by cases h
/-- G is part of H, and has no table -/
structure Sv (G H : Hp) : Prop where
  s : Same G H
  nt : ∀ b o, G b = some o → NT o
instance {G H : Hp} : CoeFun (Sv G H) (fun _ => ∀ b o, G b = some o → H b = some o) := ⟨fun x => x.s⟩
instance {G H : Hp} : Coe (Sv G H) (Same G H) := ⟨fun x => x.s⟩
theorem Sv.free {G H : Hp} (x : Sv G H) {p : Addr} (h : H p = none) : G p = none := Same.free x.s h
theorem Sv.to {G H H' : Hp} (x : Sv G H) (h : Same H H') : Sv G H' := ⟨x.s.trans h, x.nt⟩
theorem Sv.in {G H : Hp} (x : Sv G H) {b : Addr} {o : HO} (h : G b = some o) : H b = some o := x.s b o h
/-- from (G, H) to (G', H'): the read-only part grows by new objects, all else that was tracked stands (but the threaded list, and tables) -/
structure Leave (Z : Fx) (thr : Option Addr) (G H G' H' : Hp) : Prop where
  g : Same G G'
  gh : Sv G' H'
  fr : ∀ a, G' a ≠ none → G a ≠ none ∨ ∀ o, H a = some o → ¬ NT o
  st : ∀ b o, H b = some o → NT o → ∃ o', H' b = some o' ∧ NT o' ∧ (thr ≠ some b → o' = o)
  tb : LamX.Tabs Z.T H → LamX.Tabs Z.T H'
theorem Leave.refl {Z : Fx} {thr : Option Addr} {G H : Hp} (gh : Sv G H) : Leave Z thr G H G H := ⟨Same.refl _, gh, fun _ h => .inl h, fun _ o h n => ⟨o, h, n, fun _ => rfl⟩, id⟩
theorem Leave.trans {Z : Fx} {thr : Option Addr} {G H G1 H1 G2 H2 : Hp} (a : Leave Z thr G H G1 H1) (b : Leave Z thr G1 H1 G2 H2) : Leave Z thr G H G2 H2 := by
  refine ⟨a.g.trans b.g, b.gh, fun x hx => ?_, fun x o h n => ?_, fun t => b.tb (a.tb t)⟩
  · rcases b.fr x hx with h | h
    · exact a.fr x h
    · refine .inr fun o e n => ?_
      obtain ⟨o', h', n', _⟩ := a.st x o e n
      exact h o' h' n'
  · obtain ⟨o1, h1, n1, e1⟩ := a.st x o h n
    obtain ⟨o2, h2, n2, e2⟩ := b.st x o1 h1 n1
    refine ⟨o2, h2, n2, fun t => ?_⟩
    have e := e1 t
    subst e
    exact e2 t
theorem Leave.thr {Z : Fx} {thr : Option Addr} {G H G' H' : Hp} (l : Leave Z none G H G' H') : Leave Z thr G H G' H' := ⟨l.g, l.gh, l.fr, fun b o e n => by
    obtain ⟨o', h1, n1, h2⟩ := l.st b o e n
    exact ⟨o', h1, n1, fun _ => h2 (by simp)⟩, l.tb⟩
/-- all stands: for what only makes new objects -/
theorem Leave.same {Z : Fx} {thr : Option Addr} {G H G' H' : Hp} (g : Same G G') (gh : Sv G' H') (h : Same H H') (fr : ∀ a, G' a ≠ none → G a ≠ none ∨ H a = none) : Leave Z thr G H G' H' :=
  ⟨g, gh, fun a ha => (fr a ha).imp id (fun z o e => by rw [z] at e; cases e), fun _ o e n => ⟨o, h _ _ e, n, fun _ => rfl⟩, fun t => LamX.Tabs.ext t h⟩
theorem same_upd {H : Hp} {p : Addr} {o : HO} (h : H p = none) : Same H (upd H p o) := fun b u e => by
  rw [upd_ne (ne_of_none e h)]; exact e
theorem Sv.upd {G H : Hp} {p : Addr} {o : HO} (gh : Sv G H) (h : H p = none) (n : NT o) : Sv (upd G p o) (L2.upd H p o) := ⟨fun b u e => by
    by_cases hb : b = p
    · rw [hb, upd_same] at e ⊢; exact e
    · rw [upd_ne hb] at e ⊢; exact gh _ _ e, fun b u e => by
    by_cases hb : b = p
    · rw [hb, upd_same] at e; cases e; exact n
    · rw [upd_ne hb] at e; exact gh.nt _ _ e⟩
/-- a new object that is read-only -/
theorem Leave.new {Z : Fx} {thr : Option Addr} {G H : Hp} {p : Addr} {o : HO} (gh : Sv G H) (h : H p = none) (n : NT o := by exact fun _ z => by cases z) : Leave Z thr G H (upd G p o) (upd H p o) := by
  have hg : G p = none := gh.free h
  refine .same (same_upd hg) (gh.upd h n) (same_upd h) fun a ha => ?_
  by_cases hb : a = p
  · rw [hb]; exact .inr h
  · rw [upd_ne hb] at ha; exact .inl ha
/-- a new object that is not -/
theorem Leave.beside {Z : Fx} {thr : Option Addr} {G H : Hp} {p : Addr} {o : HO} (gh : Sv G H) (h : H p = none) : Leave Z thr G H G (upd H p o) :=
  .same (Same.refl _) (gh.to (same_upd h)) (same_upd h) fun _ h => .inl h

structure Par where
  G0 : Hp
  He : Hp
  B : Addr → Prop
  thr : Option Addr
/-- p was not there at the start -/
def Par.No (P : Par) (p : Addr) : Prop := ∀ o, P.He p = some o → ¬ NT o
def Par.Cl (P : Par) : Prop := ∀ b o, P.He b = some o → NT o → P.B b
theorem Par.Cl.no {P : Par} (c : P.Cl) {p : Addr} (h : ¬ P.B p) : P.No p := fun o e n => h (c p o e n)
structure Base (Z : Fx) (P : Par) (G H : Hp) : Prop where
  lv : Leave Z P.thr P.G0 P.He G H
  old : ∀ b, P.B b → ∃ o, H b = some o ∧ NT o
  tabs : LamX.Tabs Z.T H
theorem Base.gh {Z : Fx} {P : Par} {G H : Hp} (b : Base Z P G H) : Sv G H := b.lv.gh
theorem Base.leave {Z : Fx} {P : Par} {G H G' H' : Hp} (b : Base Z P G H) (l : Leave Z P.thr G H G' H') : Base Z P G' H' :=
  ⟨b.lv.trans l, fun x hx => (by
    obtain ⟨o, q, n⟩ := b.old x hx
    obtain ⟨o', h', n', _⟩ := l.st x o q n
    exact ⟨o', h', n'⟩), l.tb b.tabs⟩
def Par.here (P : Par) (G H : Hp) : Par := { P with G0 := G, He := H }
theorem Base.here {Z : Fx} {P : Par} {G H : Hp} (b : Base Z P G H) : Base Z (P.here G H) G H := ⟨.refl b.gh, b.old, b.tabs⟩
theorem Base.back {Z : Fx} {P : Par} {G H G' H' : Hp} (b : Base Z P G H) (c : Base Z (P.here G H) G' H') : Base Z P G' H' := b.leave c.lv
theorem Base.free {Z : Fx} {P : Par} {G H : Hp} (b : Base Z P G H) {d : Addr} (h : H d = none) : P.No d := fun o e n => by
  obtain ⟨o', e', _⟩ := b.lv.st d o e n
  rw [h] at e'; cases e'
theorem Base.new {Z : Fx} {P : Par} {G H : Hp} (b : Base Z P G H) {d : Addr} (h : H d = none) : ¬ P.B d := fun hb => by
  obtain ⟨o, e, _⟩ := b.old d hb
  rw [h] at e; cases e
theorem Par.No.back {Z : Fx} {P : Par} {G H : Hp} {d : Addr} (b : Base Z P G H) (h : (P.here G H).No d) : P.No d := fun o e n => by
  obtain ⟨o', e', n', _⟩ := b.lv.st d o e n
  exact h o' e' n'
theorem Leave.noG {Z : Fx} {thr : Option Addr} {G H G' H' : Hp} (l : Leave Z thr G H G' H') {q : Addr} {o : HO} (hg : G q = none) (hh : H q = some o) (n : NT o) : G' q = none := by
  cases c : G' q with
  | none => rfl
  | some u =>
    rcases l.fr q (by rw [c]; simp) with h | h
    · exact absurd hg h
    · exact absurd n (h _ hh)
/-- what a slot holds -/
inductive Slot where
  | any | pur (d : D) | own (l : List D) | own2 (l : List (List D)) | thr | err (a : Addr) (dx : Option Addr) (as : List (Str × D)) | scr (xs : List V)
inductive Owns (Z : Fx) (P : Par) (G H : Hp) : List Addr → List (List D) → Prop
  | nil : Owns Z P G H [] []
  | cons {q : Addr} {qs : List Addr} {vs : List V} {l : List D} {ls : List (List D)} : G q = none → ¬ P.B q → H q = some (.lst vs) → Rps Z.K G vs l → Owns Z P G H qs ls → Owns Z P G H (q :: qs) (l :: ls)
inductive SlotOk (Z : Fx) (P : Par) (G H : Hp) : Slot → Option V → List Addr → Prop
  | any {v : Option V} : SlotOk Z P G H .any v []
  | pur {v : V} {d : D} : Rp Z.K G v d → SlotOk Z P G H (.pur d) (some v) []
  | own {p : Addr} {vs : List V} {l : List D} : G p = none → ¬ P.B p → H p = some (.lst vs) → Rps Z.K G vs l → SlotOk Z P G H (.own l) (some (.ref p)) [p]
  | own2 {p : Addr} {qs : List Addr} {ls : List (List D)} : G p = none → ¬ P.B p → H p = some (.lst (qs.map V.ref)) → Owns Z P G H qs ls → SlotOk Z P G H (.own2 ls) (some (.ref p)) (p :: qs)
  | thr {p : Addr} : P.thr = some p → SlotOk Z P G H .thr (some (.ref p)) []
  | err {a : Addr} {dx : Option Addr} {as : List (Str × D)} : ErrOk Z.K G dx as → SlotOk Z P G H (.err a dx as) (some (.ref a)) []
  | scr {a : Addr} {xs : List V} : SqL Z.K G a xs → SlotOk Z P G H (.scr xs) (some (.ref a)) []
inductive SlotsOk (Z : Fx) (P : Par) (G H : Hp) : List Slot → L2.St → List Addr → Prop
  | nil : SlotsOk Z P G H [] [] []
  | cons {g : Slot} {Γ : List Slot} {v : Option V} {σ : L2.St} {fp fps : List Addr} : SlotOk Z P G H g v fp → SlotsOk Z P G H Γ σ fps → SlotsOk Z P G H (g :: Γ) (v :: σ) (fp ++ fps)
def ThrOk (Z : Fx) (P : Par) (s : List D) (G H : Hp) : Prop := ∀ p, P.thr = some p → G p = none ∧ ∃ vs, H p = some (.lst vs) ∧ Rps Z.K G vs s
structure Ok (Z : Fx) (P : Par) (Γ : List Slot) (s : List D) (σ : L2.St) (G H : Hp) : Prop where
  base : Base Z P G H
  thr : ThrOk Z P s G H
  sl : ∃ fps, SlotsOk Z P G H Γ σ fps ∧ (P.thr.toList ++ fps).Nodup
section
variable {Z : Fx} {P : Par} {G H G' H' : Hp} {Γ : List Slot} {s : List D} {σ : L2.St}
theorem Owns.mono : ∀ {qs : List Addr} {ls : List (List D)}, Owns Z P G H qs ls → Same G G' → (∀ q ∈ qs, ∀ o, H q = some o → G' q = none ∧ H' q = some o) → Owns Z P G' H' qs ls
  | _, _, .nil, _, _ => .nil
  | _, _, .cons a b c d e, g, k => .cons (k _ (by simp) _ c).1 b (k _ (by simp) _ c).2 (d.mono g) (Owns.mono e g fun q hq => k q (List.mem_cons_of_mem _ hq))
theorem SlotOk.mono {g : Slot} {v : Option V} {fp : List Addr} (h : SlotOk Z P G H g v fp) (m : Same G G') (k : ∀ q ∈ fp, ∀ o, H q = some o → G' q = none ∧ H' q = some o) : SlotOk Z P G' H' g v fp := by
  cases h with
  | any => exact .any
  | pur r => exact .pur (r.mono m)
  | own a b c d => exact .own (k _ (by simp) _ c).1 b (k _ (by simp) _ c).2 (d.mono m)
  | own2 a b c d => exact .own2 (k _ (by simp) _ c).1 b (k _ (by simp) _ c).2 (d.mono m fun q hq => k q (List.mem_cons_of_mem _ hq))
  | thr e => exact .thr e
  | err e => exact .err (e.mono m)
  | scr e => exact .scr (SqL.same m e)
theorem SlotsOk.mono : ∀ {Γ : List Slot} {σ : L2.St} {fps : List Addr}, SlotsOk Z P G H Γ σ fps → Same G G' → (∀ q ∈ fps, ∀ o, H q = some o → G' q = none ∧ H' q = some o) → SlotsOk Z P G' H' Γ σ fps
  | _, _, _, .nil, _, _ => .nil
  | _, _, _, .cons a r, m, k => .cons (a.mono m fun q hq => k q (List.mem_append_left _ hq)) (SlotsOk.mono r m fun q hq => k q (List.mem_append_right _ hq))
theorem Owns.at : ∀ {qs : List Addr} {ls : List (List D)}, Owns Z P G H qs ls → ∀ q ∈ qs, ∃ vs, H q = some (.lst vs) ∧ G q = none ∧ ¬ P.B q
  | _, _, .nil, q, hq => by cases hq
  | _, _, .cons a b c _ e, q, hq => by
    rcases List.mem_cons.mp hq with rfl | h
    · exact ⟨_, c, a, b⟩
    · exact e.at q h
theorem SlotOk.at {g : Slot} {v : Option V} {fp : List Addr} (h : SlotOk Z P G H g v fp) : ∀ q ∈ fp, ∃ vs, H q = some (.lst vs) ∧ G q = none ∧ ¬ P.B q := by
  cases h with
  | any => intro q hq; cases hq
  | pur _ => intro q hq; cases hq
  | thr _ => intro q hq; cases hq
  | err _ => intro q hq; cases hq
  | scr _ => intro q hq; cases hq
  | @own p vs l a b c d =>
    intro q hq
    have e : q = p := by simpa using hq
    subst e
    exact ⟨_, c, a, b⟩
  | own2 a b c d =>
    intro q hq
    rcases List.mem_cons.mp hq with rfl | h
    · exact ⟨_, c, a, b⟩
    · exact d.at q h
theorem SlotsOk.at : ∀ {Γ : List Slot} {σ : L2.St} {fps : List Addr}, SlotsOk Z P G H Γ σ fps → ∀ q ∈ fps, ∃ vs, H q = some (.lst vs) ∧ G q = none ∧ ¬ P.B q
  | _, _, _, .nil, q, hq => by cases hq
  | _, _, _, .cons a r, q, hq => by
    rcases List.mem_append.mp hq with h | h
    · exact SlotOk.at a q h
    · exact SlotsOk.at r q h
theorem lst_ne_tbl {vs : List V} : ∀ ps, HO.lst vs ≠ .tbl ps := nt_lst
theorem Leave.keepAt {q : Addr} {vs : List V} {thr : Option Addr} (l : Leave Z thr G H G' H') (n : thr ≠ some q) (e : H q = some (.lst vs)) (g : G q = none) : G' q = none ∧ H' q = some (.lst vs) := by
  obtain ⟨o', h1, n1, h2⟩ := l.st q _ e nt_lst
  have := h2 n
  subst this
  exact ⟨l.noG g e nt_lst, h1⟩
/-- what makes new objects alone, or calls -/
theorem Ok.leave (k : Ok Z P Γ s σ G H) (l : Leave Z none G H G' H') : Ok Z P Γ s σ G' H' := by
  have keep : ∀ q vs, H q = some (.lst vs) → G q = none → G' q = none ∧ H' q = some (.lst vs) := fun q vs e g => l.keepAt (by simp) e g
  refine ⟨k.base.leave l.thr, fun p hp => ?_, ?_⟩
  · obtain ⟨g, vs, h1, h2⟩ := k.thr p hp
    obtain ⟨a, b⟩ := keep p vs h1 g
    exact ⟨a, vs, b, h2.mono l.g⟩
  · obtain ⟨fps, h1, h2⟩ := k.sl
    refine ⟨fps, h1.mono l.g fun q hq o e => ?_, h2⟩
    obtain ⟨vs, e1, e2, _⟩ := h1.at q hq
    rw [e1] at e; cases e
    exact keep q vs e1 e2
theorem Ok.here (k : Ok Z P Γ s σ G H) : Ok Z (P.here G H) Γ s σ G H := by
  refine ⟨k.base.here, k.thr, ?_⟩
  obtain ⟨fps, h1, h2⟩ := k.sl
  refine ⟨fps, ?_, h2⟩
  have conv : ∀ {qs : List Addr} {ls : List (List D)}, Owns Z P G H qs ls → Owns Z (P.here G H) G H qs ls := by
    intro qs ls o
    induction o with
    | nil => exact .nil
    | cons a b c d _ ih => exact .cons a b c d ih
  clear h2 k
  induction h1 with
  | nil => exact .nil
  | cons a _ ih =>
    refine .cons ?_ ih
    cases a with
    | any => exact .any
    | pur r => exact .pur r
    | own a b c d => exact .own a b c d
    | own2 a b c d => exact .own2 a b c (conv d)
    | thr e => exact .thr e
    | err e => exact .err e
    | scr e => exact .scr e
theorem Ok.back {Γ' : List Slot} {s' : List D} {σ' : L2.St} {G1 H1 : Hp} (b : Base Z P G H) (k : Ok Z (P.here G H) Γ' s' σ' G1 H1) : Ok Z P Γ' s' σ' G1 H1 := by
  refine ⟨b.back k.base, k.thr, ?_⟩
  obtain ⟨fps, h1, h2⟩ := k.sl
  refine ⟨fps, ?_, h2⟩
  have conv : ∀ {qs : List Addr} {ls : List (List D)}, Owns Z (P.here G H) G1 H1 qs ls → Owns Z P G1 H1 qs ls := by
    intro qs ls o
    induction o with
    | nil => exact .nil
    | cons a b c d _ ih => exact .cons a b c d ih
  clear h2 k b
  induction h1 with
  | nil => exact .nil
  | cons a _ ih =>
    refine .cons ?_ ih
    cases a with
    | any => exact .any
    | pur r => exact .pur r
    | own a b c d => exact .own a b c d
    | own2 a b c d => exact .own2 a b c (conv d)
    | thr e => exact .thr e
    | err e => exact .err e
    | scr e => exact .scr e
theorem SlotsOk.get : ∀ {Γ : List Slot} {σ : L2.St} {fps : List Addr} {i : Nat} {g : Slot}, SlotsOk Z P G H Γ σ fps → Γ[i]? = some g → ∃ v fp, σ[i]? = some v ∧ SlotOk Z P G H g v fp ∧ ∀ q ∈ fp, q ∈ fps
  | _, _, _, _, _, .nil, h => by simp at h
  | _, _, _, 0, _, .cons a _, h => by simp at h; subst h; exact ⟨_, _, rfl, a, fun q hq => List.mem_append_left _ hq⟩
  | _, _, _, i + 1, _, .cons _ r, h => by
    obtain ⟨v, fp, h1, h2, h3⟩ := SlotsOk.get (i := i) r (by simpa using h)
    exact ⟨v, fp, by simpa using h1, h2, fun q hq => List.mem_append_right _ (h3 q hq)⟩
theorem Ok.pur (k : Ok Z P Γ s σ G H) {i : Nat} {d : D} (h : Γ[i]? = some (.pur d)) : ∃ v, σ[i]? = some (some v) ∧ Rp Z.K G v d := by
  obtain ⟨fps, h1, _⟩ := k.sl
  obtain ⟨v, fp, e, q, _⟩ := h1.get h
  cases q with
  | pur r => exact ⟨_, e, r⟩
end
end Sim
end
section
set_option Elab.async false
set_option linter.all false
set_option maxRecDepth 100000
set_option maxHeartbeats 400000
namespace Sim
open PySem PySem.Spec PyProof.Rows L2
/-! ### weakening a reading -/
theorem pe_imp {X : Cx} {e : Expr} {t t' : TE} (h : PE X e t) (i : ∀ σ H Q, t' σ H Q → t σ H Q) : PE X e t' := ⟨fun pins s σ H Q I q => h.run pins s σ H Q I (i σ H Q q)⟩
theorem pt_imp {X : Cx} {e : Expr} {t t' : TT} (h : PT X e t) (i : ∀ σ H Q, t' σ H Q → t σ H Q) : PT X e t' := ⟨fun pins s σ H Q I q => h.run pins s σ H Q I (i σ H Q q)⟩
theorem pw_imp {X : Cx} {e : Expr} {t t' : TT} (h : PW X e t) (i : ∀ σ H Q, t' σ H Q → t σ H Q) : PW X e t' := ⟨fun whole pins s σ H Q I q => h.run whole pins s σ H Q I (i σ H Q q)⟩
theorem pa_imp {X : Cx} {e : List Expr} {t t' : TA} (h : PA X e t) (i : ∀ σ H Q, t' σ H Q → t σ H Q) : PA X e t' := ⟨fun pos pins s σ H Q I q => h.run pos pins s σ H Q I (i σ H Q q)⟩
theorem ps_imp {X : Cx} {e : Stmt} {t t' : TS} (h : PS X e t) (i : ∀ D σ H, t' D σ H → t D σ H) : PS X e t' := ⟨fun pins s σ H D I q => h.run pins s σ H D I (i D σ H q)⟩
theorem pss_imp {X : Cx} {e : List Stmt} {t t' : TS} (h : PSs X e t) (i : ∀ D σ H, t' D σ H → t D σ H) : PSs X e t' := ⟨fun pins s σ H D I q => h.run pins s σ H D I (i D σ H q)⟩
theorem pi_imp {X : Cx} {tg e : Expr} {t t' : TI} (h : PI X tg e t) (i : ∀ σ H Q, t' σ H Q → t σ H Q) : PI X tg e t' := ⟨fun pins s σ H Q I q => h.run pins s σ H Q I (i σ H Q q)⟩
theorem pe_any {ι : Type} {X : Cx} {e : Expr} {t : ι → TE} (h : ∀ i, PE X e (t i)) : PE X e (fun σ H Q => ∃ i, t i σ H Q) := ⟨fun pins s σ H Q I ⟨i, q⟩ => (h i).run pins s σ H Q I q⟩
theorem pss_any {ι : Type} {X : Cx} {e : List Stmt} {t : ι → TS} (h : ∀ i, PSs X e (t i)) : PSs X e (fun D σ H => ∃ i, t i D σ H) := ⟨fun pins s σ H Q I ⟨i, q⟩ => (h i).run pins s σ H Q I q⟩
theorem pa_any {ι : Type} {X : Cx} {e : List Expr} {t : ι → TA} (h : ∀ i, PA X e (t i)) : PA X e (fun σ H Q => ∃ i, t i σ H Q) := ⟨fun pos pins s σ H Q I ⟨i, q⟩ => (h i).run pos pins s σ H Q I q⟩
theorem pi_or {X : Cx} {tg e : Expr} {t t' : TI} (h : PI X tg e t) (h' : PI X tg e t') : PI X tg e (fun σ H R => t σ H R ∨ t' σ H R) := ⟨fun pins s σ H Q I q => q.elim (h.run pins s σ H Q I) (h'.run pins s σ H Q I)⟩

/-! ### the readings -/
def ExnRep (Z : Fx) (No : Addr → Prop) (G H : Hp) (x : Exn) (cls : Value) (dx : Option Addr) : Prop :=
  ∃ C, Z.mg x.name = some (.ref C) ∧ cls = .ref C ∧ match x.args with
    | [] => dx = none
    | as => ∃ d fs, dx = some d ∧ No d ∧ H d = some (.xd fs) ∧ Rpf Z.K G fs as
theorem ExnRep.old {Z : Fx} {No No' : Addr → Prop} {G H : Hp} {x : Exn} {cls : Value} {dx : Option Addr} (h : ExnRep Z No G H x cls dx) (k : ∀ d, No d → No' d) : ExnRep Z No' G H x cls dx := by
  obtain ⟨C, h1, h2, h3⟩ := h
  refine ⟨C, h1, h2, ?_⟩
  obtain ⟨nm, as⟩ := x
  cases as with
  | nil => exact h3
  | cons a as =>
    obtain ⟨d, fs, e1, e2, e3⟩ := h3
    exact ⟨d, fs, e1, k d e2, e3⟩
theorem ExnRep.back {Z : Fx} {P : Par} {G0 H0 G H : Hp} {x : Exn} {cls : Value} {dx : Option Addr} (b : Base Z P G0 H0) (h : ExnRep Z (P.here G0 H0).No G H x cls dx) : ExnRep Z P.No G H x cls dx := h.old fun _ e => e.back b
def ExP (Z : Fx) (Ex : XK) (P : Par) (G : Hp) (x : Exn) : Prop := ∀ cls dx G' H', Same G G' → Base Z P G' H' → ExnRep Z P.No G' H' x cls dx → Ex cls dx H'
/-- what is wanted behind a run from (s, G): K of its value, the threaded list, the heaps -/
def Post {α : Type} (Z : Fx) (Ex : XK) (P : Par) (Γ : List Slot) (σ : L2.St) (G : Hp) (r : R (α × List D)) (K : α → List D → Hp → Hp → Prop) : Prop :=
  r.post (fun a => ∀ G' H', Same G G' → Ok Z P Γ a.2 σ G' H' → K a.1 a.2 G' H') (ExP Z Ex P G)
def rdE (Z : Fx) (Ex : XK) (Γ : List Slot) (m : M D) : TE := fun σ H Q => ∃ P s G, Ok Z P Γ s σ G H ∧ Post Z Ex P Γ σ G (m s) fun d _ G' H' => ∀ v, Rp Z.K G' v d → Q v H'
def rdB (Z : Fx) (Ex : XK) (Γ : List Slot) (m : M Bool) : TE := fun σ H Q => ∃ P s G, Ok Z P Γ s σ G H ∧ Post Z Ex P Γ σ G (m s) fun b _ _ H' => Q (.bl b) H'
def rdT (Z : Fx) (Ex : XK) (Γ : List Slot) (m : M Bool) : TT := fun σ H Q => ∃ P s G, Ok Z P Γ s σ G H ∧ Post Z Ex P Γ σ G (m s) fun b _ _ H' => Q b H'
def rdA (Z : Fx) (Ex : XK) (Γ : List Slot) (m : M (List D)) : TA := fun σ H Q => ∃ P s G, Ok Z P Γ s σ G H ∧ Post Z Ex P Γ σ G (m s) fun d _ G' H' => ∀ v, Rps Z.K G' v d → Q v H'
/-- a new list, not yet anyone's -/
def rdL (Z : Fx) (Ex : XK) (Γ : List Slot) (m : M (List D)) : TE := fun σ H Q => ∃ P s G, Ok Z P Γ s σ G H ∧ Post Z Ex P Γ σ G (m s) fun l _ G' H' => ∀ p vs, H' p = none → Rps Z.K G' vs l → Q (.ref p) (upd H' p (.lst vs))
section
variable {α β : Type} {Z : Fx} {Ex : XK} {P : Par} {G G1 H : Hp} {Γ : List Slot} {s : List D} {σ : L2.St}
theorem ExP.mono {x : Exn} (g : Same G G1) (h : ExP Z Ex P G x) : ExP Z Ex P G1 x := fun cls dx G' H' g' => h cls dx G' H' (g.trans g')
theorem Post.mono {r : R (α × List D)} {K K' : α → List D → Hp → Hp → Prop} (h : Post Z Ex P Γ σ G r K) (k : ∀ a s G' H', Same G G' → Ok Z P Γ s σ G' H' → K a s G' H' → K' a s G' H') : Post Z Ex P Γ σ G r K' :=
  R.post_mono h (fun a q G' H' g o => k a.1 a.2 G' H' g o (q G' H' g o)) fun _ q => q
theorem Post.grow {r : R (α × List D)} {K : α → List D → Hp → Hp → Prop} (h : Post Z Ex P Γ σ G r K) (g : Same G G1) : Post Z Ex P Γ σ G1 r K :=
  R.post_mono h (fun a q G' H' g' o => q G' H' (g.trans g') o) fun _ q => q.mono g
theorem Post.bind {m : M α} {k : α → M β} {K : β → List D → Hp → Hp → Prop} (h : Post Z Ex P Γ σ G (M.bind m k s) K) : Post Z Ex P Γ σ G (m s) fun a s' G' _ => Post Z Ex P Γ σ G' (k a s') K := by
  unfold M.bind at h
  cases e : m s with
  | ok r =>
    rw [e] at h
    exact fun G' H' g o => Post.grow h g
  | exn x =>
    rw [e] at h
    exact h
  | stuck =>
    rw [e] at h
    exact h
theorem Post.pure {a : α} {K : α → List D → Hp → Hp → Prop} (h : Post Z Ex P Γ σ G (M.pure a s) K) (o : Ok Z P Γ s σ G H) : K a s G H := h G H (Same.refl _) o
theorem Post.opt {o : Option α} {K : α → List D → Hp → Hp → Prop} (h : Post Z Ex P Γ σ G (M.opt o s) K) : ∃ a, o = some a ∧ Post Z Ex P Γ σ G (M.pure a s) K := by
  cases o with
  | some a => exact ⟨a, rfl, h⟩
  | none => exact h.elim
theorem Post.bool {b : Bool} {k : Bool → M β} {K : β → List D → Hp → Hp → Prop} (h : Post Z Ex P Γ σ G (k b s) K) : if b = true then Post Z Ex P Γ σ G (k true s) K else Post Z Ex P Γ σ G (k false s) K := by
  cases b
  · exact h
  · exact h
theorem stepE {m : M D} {k : D → M β} {K : β → List D → Hp → Hp → Prop} {C : V → Hp → Prop} (o : Ok Z P Γ s σ G H) (h : Post Z Ex P Γ σ G (M.bind m k s) K)
    (c : ∀ v d s1 G1 H1, Same G G1 → Ok Z P Γ s1 σ G1 H1 → Rp Z.K G1 v d → Post Z Ex P Γ σ G1 (k d s1) K → C v H1) : rdE Z Ex Γ m σ H C :=
  ⟨P, s, G, o, (Post.bind h).mono fun d s1 G1 H1 g o1 q v r => c v d s1 G1 H1 g o1 r q⟩
theorem stepB {m : M Bool} {k : Bool → M β} {K : β → List D → Hp → Hp → Prop} {C : V → Hp → Prop} (o : Ok Z P Γ s σ G H) (h : Post Z Ex P Γ σ G (M.bind m k s) K)
    (c : ∀ b s1 G1 H1, Same G G1 → Ok Z P Γ s1 σ G1 H1 → Post Z Ex P Γ σ G1 (k b s1) K → C (.bl b) H1) : rdB Z Ex Γ m σ H C :=
  ⟨P, s, G, o, (Post.bind h).mono fun d s1 G1 H1 g o1 q => c d s1 G1 H1 g o1 q⟩
theorem stepT {m : M Bool} {k : Bool → M β} {K : β → List D → Hp → Hp → Prop} {C : Bool → Hp → Prop} (o : Ok Z P Γ s σ G H) (h : Post Z Ex P Γ σ G (M.bind m k s) K)
    (c : ∀ b s1 G1 H1, Same G G1 → Ok Z P Γ s1 σ G1 H1 → Post Z Ex P Γ σ G1 (k b s1) K → C b H1) : rdT Z Ex Γ m σ H C :=
  ⟨P, s, G, o, (Post.bind h).mono fun d s1 G1 H1 g o1 q => c d s1 G1 H1 g o1 q⟩
theorem stepA {m : M (List D)} {k : List D → M β} {K : β → List D → Hp → Hp → Prop} {C : List V → Hp → Prop} (o : Ok Z P Γ s σ G H) (h : Post Z Ex P Γ σ G (M.bind m k s) K)
    (c : ∀ v d s1 G1 H1, Same G G1 → Ok Z P Γ s1 σ G1 H1 → Rps Z.K G1 v d → Post Z Ex P Γ σ G1 (k d s1) K → C v H1) : rdA Z Ex Γ m σ H C :=
  ⟨P, s, G, o, (Post.bind h).mono fun d s1 G1 H1 g o1 q v r => c v d s1 G1 H1 g o1 r q⟩
theorem stepL {m : M (List D)} {k : List D → M β} {K : β → List D → Hp → Hp → Prop} {C : V → Hp → Prop} (o : Ok Z P Γ s σ G H) (h : Post Z Ex P Γ σ G (M.bind m k s) K)
    (c : ∀ p vs l s1 G1 H1, Same G G1 → Ok Z P Γ s1 σ G1 H1 → H1 p = none → Rps Z.K G1 vs l → Post Z Ex P Γ σ G1 (k l s1) K → C (.ref p) (upd H1 p (.lst vs))) : rdL Z Ex Γ m σ H C :=
  ⟨P, s, G, o, (Post.bind h).mono fun l s1 G1 H1 g o1 q p vs hp r => c p vs l s1 G1 H1 g o1 hp r q⟩
end
/-- where a term stands -/
class Cok0 (Z : Fx) (X : Cx) : Prop where
  K : X.K = Z.K
  mg : X.mg = Z.mg
  nd : X.N.Nodup
  hu : X.A.units + 66 < cLine
class Cok (Z : Fx) (X : Cx) : Prop extends Cok0 Z X where
  calm : X.calm = true

section
variable {Z : Fx} {Ex : XK} {X : Cx} {Γ : List Slot}
/-! ### constants, names -/
theorem e_pure {e : Expr} {v : V} {d : D} (h : PE X e (tC v)) (r : ∀ K G, Rp K G v d) : PE X e (rdE Z Ex Γ (M.pure d)) :=
  pe_imp h fun σ H Q ⟨P, s, G, o, q⟩ => Post.pure q o v (r _ _)
theorem e_int {i : Int} {j : Nat} {pos : Pos} : PE X (.Constant (.int i) j pos) (rdE Z Ex Γ (M.pure (.int i))) := e_pure pe_int fun _ _ => .int i
theorem e_str {i : Str} {j : Nat} {pos : Pos} : PE X (.Constant (.str i) j pos) (rdE Z Ex Γ (M.pure (.str i))) := e_pure pe_str fun _ _ => .str i
theorem e_non {j : Nat} {pos : Pos} : PE X (.Constant .none j pos) (rdE Z Ex Γ (M.pure .none)) := e_pure pe_non fun _ _ => .non
theorem b_bool {b : Bool} {j : Nat} {pos : Pos} : PE X (.Constant (.bool b) j pos) (rdB Z Ex Γ (M.pure b)) := pe_imp pe_bl fun σ H Q ⟨P, s, G, o, q⟩ => Post.pure q o
theorem e_var (i : Nat) {d : D} {x : Str} {pos : Pos} (hg : Γ[i]? = some (.pur d) := by rfl) (hN : X.N[i]? = some x := by rfl) (hv : Vis X.env.scope x := by first | exact Or.inl rfl | exact Or.inr (Or.inl rfl) | exact Or.inr (Or.inr rfl))
    (hd : (x == ("__debug__" : Str)) = false := by decide) (hcd : (x == ("__classdict__" : Str)) = false := by decide) : PE X (.Name x pos) (rdE Z Ex Γ (M.pure d)) :=
  pe_imp (pe_var hN hv hd hcd) fun σ H Q ⟨P, s, G, o, q⟩ => by
    obtain ⟨v, e, r⟩ := o.pur hg
    exact ⟨v, e, Post.pure q o v r⟩
/-! ### kinds of values -/
theorem e_ofB {e : Expr} {m : M Bool} (h : PE X e (rdB Z Ex Γ m)) : PE X e (rdE Z Ex Γ (M.bind m fun b => M.pure (.bool b))) :=
  pe_imp h fun σ H Q ⟨P, s, G, o, q⟩ => stepB o q fun b s1 G1 H1 g o1 q1 => Post.pure q1 o1 _ (.bl b)
def dBool : D → Option Bool
  | .bool b => some b
  | _ => none
theorem b_ofE {e : Expr} {m : M D} (h : PE X e (rdE Z Ex Γ m)) : PE X e (rdB Z Ex Γ (M.bind m fun d => M.opt (dBool d))) :=
  pe_imp h fun σ H Q ⟨P, s, G, o, q⟩ => stepE o q fun v d s1 G1 H1 g o1 r q1 => by
    obtain ⟨b, e, q2⟩ := Post.opt q1
    cases r <;> simp [dBool] at e
    subst e
    exact Post.pure q2 o1
/-- a new list is told as it is from now on -/
theorem e_ofL {e : Expr} {m : M (List D)} (h : PE X e (rdL Z Ex Γ m)) : PE X e (rdE Z Ex Γ (M.bind m fun l => M.pure (.list l))) :=
  pe_imp h fun σ H Q ⟨P, s, G, o, q⟩ => stepL o q fun p vs l s1 G1 H1 g o1 hp r q1 =>
    q1 _ _ (same_upd (o1.base.gh.free hp)) (o1.leave (.new o1.base.gh hp)) _ (.lst upd_same (r.mono (same_upd (o1.base.gh.free hp))))
theorem t_val {e : Expr} {m : M Bool} (h : PE X e (rdB Z Ex Γ m)) (he : ∀ whole, isTrue e X.env whole = (do let v ← whole; standAt e.pos; holding [v] (truthy v)) := by intro _; rfl) : PT X e (rdT Z Ex Γ m) :=
  pt_imp (pt_val h he) fun σ H Q ⟨P, s, G, o, q⟩ => ⟨P, s, G, o, q.mono fun b s' G' H' _ _ k => ⟨b, rfl, k⟩⟩
/-! ### and, or, not -/
def mAnd (a b : M Bool) : M Bool := M.bind a fun c => if c then b else M.pure false
def mOr (a b : M Bool) : M Bool := M.bind a fun c => if c then M.pure true else b
def mNot (a : M Bool) : M Bool := M.bind a fun c => M.pure (!c)
@[simp] theorem mAnd_true (b : M Bool) : mAnd (M.pure true) b = b := rfl
@[simp] theorem mAnd_false (b : M Bool) : mAnd (M.pure false) b = M.pure false := rfl
@[simp] theorem mOr_true (b : M Bool) : mOr (M.pure true) b = M.pure true := rfl
@[simp] theorem mOr_false (b : M Bool) : mOr (M.pure false) b = b := rfl
@[simp] theorem mNot_pure (b : Bool) : mNot (M.pure b) = M.pure (!b) := rfl
variable {a b c : Expr} {rest : List Expr} {ma mb mc : M Bool} {pos : Pos}
theorem and_rd {C : Bool → Hp → Prop} {σ : L2.St} {H : Hp} (h : rdT Z Ex Γ (mAnd ma mb) σ H C) : tAnd (rdT Z Ex Γ ma) (rdT Z Ex Γ mb) σ H C := by
  obtain ⟨P, s, G, o, q⟩ := h
  refine stepT o q fun c s1 G1 H1 g o1 q1 => ?_
  cases c with
  | true => exact iteT ⟨P, s1, G1, o1, q1⟩
  | false => exact iteF (Post.pure q1 o1)
theorem or_rd {C : Bool → Hp → Prop} {σ : L2.St} {H : Hp} (h : rdT Z Ex Γ (mOr ma mb) σ H C) : tOr (rdT Z Ex Γ ma) (rdT Z Ex Γ mb) σ H C := by
  obtain ⟨P, s, G, o, q⟩ := h
  refine stepT o q fun c s1 G1 H1 g o1 q1 => ?_
  cases c with
  | true => exact iteT (Post.pure q1 o1)
  | false => exact iteF ⟨P, s1, G1, o1, q1⟩
theorem w_and1 (ha : PT X a (rdT Z Ex Γ ma)) : PW X (.BoolOp .And [a] pos) (rdT Z Ex Γ ma) := pw_and1 ha
theorem w_or1 (ha : PT X a (rdT Z Ex Γ ma)) : PW X (.BoolOp .Or [a] pos) (rdT Z Ex Γ ma) := pw_or1 ha
theorem w_and (ha : PT X a (rdT Z Ex Γ ma)) (hb : PW X (.BoolOp .And (b :: rest) pos) (rdT Z Ex Γ mb)) : PW X (.BoolOp .And (a :: b :: rest) pos) (rdT Z Ex Γ (mAnd ma mb)) := pw_imp (pw_and ha hb) fun σ H Q h => and_rd h
theorem w_or (ha : PT X a (rdT Z Ex Γ ma)) (hb : PW X (.BoolOp .Or (b :: rest) pos) (rdT Z Ex Γ mb)) : PW X (.BoolOp .Or (a :: b :: rest) pos) (rdT Z Ex Γ (mOr ma mb)) := pw_imp (pw_or ha hb) fun σ H Q h => or_rd h
theorem t_not (ha : PT X a (rdT Z Ex Γ ma)) : PT X (.UnaryOp .Not a pos) (rdT Z Ex Γ (mNot ma)) := pt_imp (pt_not ha) fun σ H Q ⟨P, s, G, o, q⟩ =>
  stepT o q fun c s1 G1 H1 g o1 q1 => Post.pure q1 o1
theorem t_bool {b : Bool} {j : Nat} {pos : Pos} : PT X (.Constant (.bool b) j pos) (rdT Z Ex Γ (M.pure b)) := t_val b_bool
theorem b_one {op : BoolOp} (ha : PE X a (rdB Z Ex Γ ma)) : PE X (.BoolOp op [a] pos) (rdB Z Ex Γ ma) := pe_one ha
theorem b_and (ha : PE X a (rdB Z Ex Γ ma)) (hb : PE X (.BoolOp .And (b :: rest) pos) (rdB Z Ex Γ mb)) : PE X (.BoolOp .And (a :: b :: rest) pos) (rdB Z Ex Γ (mAnd ma mb)) :=
  pe_imp (pe_and ha hb) fun σ H Q ⟨P, s, G, o, q⟩ => stepB o q fun c s1 G1 H1 g o1 q1 => ⟨c, rfl, by
    cases c with
    | true => exact iteT ⟨P, s1, G1, o1, q1⟩
    | false => exact iteF (Post.pure q1 o1)⟩
theorem b_or (ha : PE X a (rdB Z Ex Γ ma)) (hb : PE X (.BoolOp .Or (b :: rest) pos) (rdB Z Ex Γ mb)) : PE X (.BoolOp .Or (a :: b :: rest) pos) (rdB Z Ex Γ (mOr ma mb)) :=
  pe_imp (pe_or ha hb) fun σ H Q ⟨P, s, G, o, q⟩ => stepB o q fun c s1 G1 H1 g o1 q1 => ⟨c, rfl, by
    cases c with
    | true => exact iteT (Post.pure q1 o1)
    | false => exact iteF ⟨P, s1, G1, o1, q1⟩⟩
theorem b_not (ha : PE X a (rdB Z Ex Γ ma)) : PE X (.UnaryOp .Not a pos) (rdB Z Ex Γ (mNot ma)) :=
  pe_imp (pe_not ha) fun σ H Q ⟨P, s, G, o, q⟩ => stepB o q fun c s1 G1 H1 g o1 q1 => ⟨c, rfl, Post.pure q1 o1⟩
/-- a if c else b -/
theorem e_if {x y : Expr} {mx my : M D} (hc : PT X c (rdT Z Ex Γ mc)) (hx : PE X x (rdE Z Ex Γ mx)) (hy : PE X y (rdE Z Ex Γ my)) : PE X (.IfExp c x y pos) (rdE Z Ex Γ (M.bind mc fun c => if c then mx else my)) :=
  pe_imp (pe_ifExp hc hx hy) fun σ H Q ⟨P, s, G, o, q⟩ => stepT o q fun c s1 G1 H1 g o1 q1 => by
    cases c with
    | true => exact iteT ⟨P, s1, G1, o1, q1⟩
    | false => exact iteF ⟨P, s1, G1, o1, q1⟩
end

/-! ### operators by values -/
def Prim1 (Z : Fx) (r : V → Hp → VK → Prop) (f : D → Option D) : Prop := ∀ x dx d G H (Q : VK), Sv G H → Rp Z.K G x dx → f dx = some d → (∀ v G' H', Leave Z none G H G' H' → Rp Z.K G' v d → Q v H') → r x H Q
def Prim2 (Z : Fx) (r : R2) (f : D → D → Option D) : Prop := ∀ x y dx dy d G H (Q : VK), Sv G H → Rp Z.K G x dx → Rp Z.K G y dy → f dx dy = some d → (∀ v G' H', Leave Z none G H G' H' → Rp Z.K G' v d → Q v H') → r x y H Q
def PrimB (Z : Fx) (r : R2) (f : D → D → Option Bool) : Prop := ∀ x y dx dy b G H (Q : VK), Sv G H → Rp Z.K G x dx → Rp Z.K G y dy → f dx dy = some b → Q (.bl b) H → r x y H Q
def Prim2L (Z : Fx) (r : R2) (f : D → D → Option (List D)) : Prop := ∀ x y dx dy l G H (Q : VK), Sv G H → Rp Z.K G x dx → Rp Z.K G y dy → f dx dy = some l → (∀ p vs, H p = none → Rps Z.K G vs l → Q (.ref p) (upd H p (.lst vs))) → r x y H Q
def PrimC (Z : Fx) (r : List V → Hp → VK → Prop) (f : List D → Option D) : Prop := ∀ xs ds d G H (Q : VK), Sv G H → Rps Z.K G xs ds → f ds = some d → (∀ v G' H', Leave Z none G H G' H' → Rp Z.K G' v d → Q v H') → r xs H Q
def PrimCB (Z : Fx) (r : List V → Hp → VK → Prop) (f : List D → Option Bool) : Prop := ∀ xs ds b G H (Q : VK), Sv G H → Rps Z.K G xs ds → f ds = some b → Q (.bl b) H → r xs H Q
def PrimCL (Z : Fx) (r : List V → Hp → VK → Prop) (f : List D → Option (List D)) : Prop := ∀ xs ds l G H (Q : VK), Sv G H → Rps Z.K G xs ds → f ds = some l → (∀ p vs, H p = none → Rps Z.K G vs l → Q (.ref p) (upd H p (.lst vs))) → r xs H Q
section
variable {Z : Fx} {Ex : XK} {X : Cx} {Γ : List Slot} {a b : Expr} {ma mb : M D} {pos : Pos}
theorem e_bin {op : Operator} {r : R2} {f : D → D → Option D} (ho : OpR X (binaryOp op) r) (hp : Prim2 Z r f) (ha : PE X a (rdE Z Ex Γ ma)) (hb : PE X b (rdE Z Ex Γ mb)) :
    PE X (.BinOp a op b pos) (rdE Z Ex Γ (M.bind ma fun x => M.bind mb fun y => M.opt (f x y))) :=
  pe_imp (pe_op ho ha hb) fun σ H Q ⟨P, s, G, o, q⟩ => stepE o q fun v d s1 G1 H1 g o1 r1 q1 => stepE o1 q1 fun w d2 s2 G2 H2 g2 o2 r2 q2 => by
    obtain ⟨z, e, q3⟩ := Post.opt q2
    exact hp _ _ _ _ _ G2 _ _ o2.base.gh (r1.mono g2) r2 e fun u G' H' l ru => q3 G' H' l.g (o2.leave l) u ru
theorem l_bin {op : Operator} {r : R2} {f : D → D → Option (List D)} (ho : OpR X (binaryOp op) r) (hp : Prim2L Z r f) (ha : PE X a (rdE Z Ex Γ ma)) (hb : PE X b (rdE Z Ex Γ mb)) :
    PE X (.BinOp a op b pos) (rdL Z Ex Γ (M.bind ma fun x => M.bind mb fun y => M.opt (f x y))) :=
  pe_imp (pe_op ho ha hb) fun σ H Q ⟨P, s, G, o, q⟩ => stepE o q fun v d s1 G1 H1 g o1 r1 q1 => stepE o1 q1 fun w d2 s2 G2 H2 g2 o2 r2 q2 => by
    obtain ⟨z, e, q3⟩ := Post.opt q2
    exact hp _ _ _ _ _ G2 _ _ o2.base.gh (r1.mono g2) r2 e (Post.pure q3 o2)
theorem b_cmp {op : CmpOp} {r : R2} {f : D → D → Option Bool} (ho : OpR X (compareOp op) r) (hp : PrimB Z r f) (ha : PE X a (rdE Z Ex Γ ma)) (hb : PE X b (rdE Z Ex Γ mb)) (hm : behindInMarks op b = false := by first | exact nomark _ | rfl) :
    PE X (.Compare a [op] [b] pos) (rdB Z Ex Γ (M.bind ma fun x => M.bind mb fun y => M.opt (f x y))) :=
  pe_imp (pe_cmpR ho ha hb hm) fun σ H Q ⟨P, s, G, o, q⟩ => stepE o q fun v d s1 G1 H1 g o1 r1 q1 => stepE o1 q1 fun w d2 s2 G2 H2 g2 o2 r2 q2 => by
    obtain ⟨z, e, q3⟩ := Post.opt q2
    exact hp _ _ _ _ _ G2 _ _ o2.base.gh (r1.mono g2) r2 e (Post.pure q3 o2)
theorem t_cmp {op : CmpOp} {r : R2} {f : D → D → Option Bool} (ho : OpR X (compareOp op) r) (hp : PrimB Z r f) (ha : PE X a (rdE Z Ex Γ ma)) (hb : PE X b (rdE Z Ex Γ mb)) (hm : behindInMarks op b = false := by first | exact nomark _ | rfl) :
    PT X (.Compare a [op] [b] pos) (rdT Z Ex Γ (M.bind ma fun x => M.bind mb fun y => M.opt (f x y))) :=
  pt_imp (pt_cmpR ho ha hb hm) fun σ H Q ⟨P, s, G, o, q⟩ => stepE o q fun v d s1 G1 H1 g o1 r1 q1 => stepE o1 q1 fun w d2 s2 G2 H2 g2 o2 r2 q2 => by
    obtain ⟨z, e, q3⟩ := Post.opt q2
    exact hp _ _ _ _ _ G2 _ _ o2.base.gh (r1.mono g2) r2 e ⟨z, rfl, Post.pure q3 o2⟩
theorem b_chain {op op' : CmpOp} {c : Expr} {mc : M D} {r r' : R2} {f f' : D → D → Option Bool} (ho : OpR X (compareOp op) r) (hp : PrimB Z r f) (ho' : OpR X (compareOp op') r') (hp' : PrimB Z r' f') (ha : PE X a (rdE Z Ex Γ ma)) (hb : PE X b (rdE Z Ex Γ mb)) (hc : PE X c (rdE Z Ex Γ mc))
    (hm : lastMarks [op, op'] [b, c] = false := by with_unfolding_all rfl) :
    PE X (.Compare a [op, op'] [b, c] pos) (rdB Z Ex Γ (M.bind ma fun x => M.bind mb fun y => M.bind (M.opt (f x y)) fun k => if k then M.bind mc fun z => M.opt (f' y z) else M.pure false)) :=
  pe_imp (pe_chain ho ho' ha hb hc hm) fun σ H Q ⟨P, s, G, o, q⟩ => stepE o q fun v d s1 G1 H1 g o1 r1 q1 => stepE o1 q1 fun w d2 s2 G2 H2 g2 o2 r2 q2 => by
    cases e : f d d2 with
    | none => rw [e] at q2; exact q2.elim
    | some k =>
      rw [e] at q2
      refine hp _ _ _ _ _ G2 _ _ o2.base.gh (r1.mono g2) r2 e ⟨k, rfl, ?_⟩
      cases k with
      | false => exact iteF (Post.pure q2 o2)
      | true =>
        refine iteT (stepE o2 q2 fun u d3 s3 G3 H3 g3 o3 r3 q3 => ?_)
        obtain ⟨z, e', q4⟩ := Post.opt q3
        exact hp' _ _ _ _ _ G3 _ _ o3.base.gh (r2.mono g3) r3 e' (Post.pure q4 o3)
theorem t_chain {op op' : CmpOp} {c : Expr} {mc : M D} {r r' : R2} {f f' : D → D → Option Bool} (ho : OpR X (compareOp op) r) (hp : PrimB Z r f) (ho' : OpR X (compareOp op') r') (hp' : PrimB Z r' f') (ha : PE X a (rdE Z Ex Γ ma)) (hb : PE X b (rdE Z Ex Γ mb)) (hc : PE X c (rdE Z Ex Γ mc))
    (hm : lastMarks [op, op'] [b, c] = false := by with_unfolding_all rfl) :
    PT X (.Compare a [op, op'] [b, c] pos) (rdT Z Ex Γ (M.bind ma fun x => M.bind mb fun y => M.bind (M.opt (f x y)) fun k => if k then M.bind mc fun z => M.opt (f' y z) else M.pure false)) :=
  pt_imp (pt_chain ho ho' ha hb hc hm) fun σ H Q ⟨P, s, G, o, q⟩ => stepE o q fun v d s1 G1 H1 g o1 r1 q1 => stepE o1 q1 fun w d2 s2 G2 H2 g2 o2 r2 q2 => by
    cases e : f d d2 with
    | none => rw [e] at q2; exact q2.elim
    | some k =>
      rw [e] at q2
      refine hp _ _ _ _ _ G2 _ _ o2.base.gh (r1.mono g2) r2 e ⟨k, rfl, ?_⟩
      cases k with
      | false => exact iteF ⟨false, rfl, Post.pure q2 o2⟩
      | true =>
        refine iteT (stepE o2 q2 fun u d3 s3 G3 H3 g3 o3 r3 q3 => ?_)
        obtain ⟨z, e', q4⟩ := Post.opt q3
        exact hp' _ _ _ _ _ G3 _ _ o3.base.gh (r2.mono g3) r3 e' ⟨z, rfl, Post.pure q4 o3⟩
/-! ### subscripts -/
theorem e_ix {r : R2} {f : D → D → Option D} (hr : IxR X r) (hp : Prim2 Z r f) (ha : PE X a (rdE Z Ex Γ ma)) (hb : PE X b (rdE Z Ex Γ mb)) (hs : PlainIx b := by exact fun _ _ => rfl) :
    PE X (.Subscript a b pos) (rdE Z Ex Γ (M.bind ma fun x => M.bind mb fun y => M.opt (f x y))) :=
  pe_imp (pe_ix hr ha hb hs) fun σ H Q ⟨P, s, G, o, q⟩ => stepE o q fun v d s1 G1 H1 g o1 r1 q1 => stepE o1 q1 fun w d2 s2 G2 H2 g2 o2 r2 q2 => by
    obtain ⟨z, e, q3⟩ := Post.opt q2
    exact hp _ _ _ _ _ G2 _ _ o2.base.gh (r1.mono g2) r2 e fun u G' H' l ru => q3 G' H' l.g (o2.leave l) u ru
/-! ### argument lists -/
theorem a_nil : PA X [] (rdA Z Ex Γ (M.pure [])) := pa_imp pa_nil fun σ H Q ⟨P, s, G, o, q⟩ => Post.pure q o [] .nil
theorem a_cons {es : List Expr} {ms : M (List D)} (ha : PE X a (rdE Z Ex Γ ma)) (hr : PA X es (rdA Z Ex Γ ms)) (hs : starEach (a :: es) X.env = (false, eval a X.env) :: starEach es X.env := by rfl) :
    PA X (a :: es) (rdA Z Ex Γ (M.bind ma fun x => M.bind ms fun xs => M.pure (x :: xs))) :=
  pa_imp (pa_cons ha hr hs) fun σ H Q ⟨P, s, G, o, q⟩ => stepE o q fun v d s1 G1 H1 g o1 r1 q1 => stepA o1 q1 fun vs ds s2 G2 H2 g2 o2 r2 q2 => Post.pure q2 o2 _ (.cons (r1.mono g2) r2)
def dTup (ds : List D) : Option D := if ds.length ≤ 1000 then some (.tuple ds) else none
def dLst (ds : List D) : Option (List D) := if ds.length ≤ 1000 then some ds else none
theorem e_tup {es : List Expr} {ms : M (List D)} {x1} (h : PA X es (rdA Z Ex Γ ms)) : PE X (.Tuple es x1 pos) (rdE Z Ex Γ (M.bind ms fun ds => M.opt (dTup ds))) :=
  pe_imp (pe_tup h) fun σ H Q ⟨P, s, G, o, q⟩ => stepA o q fun vs ds s1 G1 H1 g o1 r q1 => by
    obtain ⟨z, e, q2⟩ := Post.opt q1
    unfold dTup at e
    split at e
    · rename_i hz
      cases e
      exact ⟨by rw [r.length]; exact Nat.le_trans hz (by decide), fun p hp => q2 _ _ (same_upd (o1.base.gh.free hp)) (o1.leave (.new o1.base.gh hp)) _ (.tup upd_same (r.mono (same_upd (o1.base.gh.free hp))))⟩
    · cases e
theorem l_lst {es : List Expr} {ms : M (List D)} (h : PA X es (rdA Z Ex Γ ms)) : PE X (.List es pos) (rdL Z Ex Γ (M.bind ms fun ds => M.opt (dLst ds))) :=
  pe_imp (pe_lst h) fun σ H Q ⟨P, s, G, o, q⟩ => stepA o q fun vs ds s1 G1 H1 g o1 r q1 => by
    obtain ⟨z, e, q2⟩ := Post.opt q1
    unfold dLst at e
    split at e
    · rename_i hz
      cases e
      have hz' : vs.length ≤ sizeLine := by rw [r.length]; exact Nat.le_trans hz (by decide)
      exact ⟨hz', fun p hp => Post.pure q2 o1 p vs hp r⟩
    · cases e
/-! ### calls of what is built in -/
theorem e_callB {id : String} {r : List V → Hp → VK → Prop} {f : List D → Option D} {x : Str} {p : Pos} {es : List Expr} {ms : M (List D)} [ck : Cok0 Z X] (hc : CallR X (.builtin id) r) (hp : PrimC Z r f) (hm : Z.mg x = none) (hv : bootBuiltins x = some (.builtin id)) (ha : PA X (a :: es) (rdA Z Ex Γ ms)) (hg : Gl X x := by rfl) (hn : x ≠ "__name__" := by decide)
    (hdb : (x == ("__debug__" : Str)) = false := by decide) (he : starEach (a :: es) X.env = (false, eval a X.env) :: starEach es X.env := by rfl) (hpl : (backTo pos (starEach es X.env)).any (·.1) = false := by rfl) :
    PE X (.Call (.Name x p) (a :: es) [] pos) (rdE Z Ex Γ (M.bind ms fun ds => M.opt (f ds))) :=
  pe_imp (pe_callB hc hg (by rw [ck.mg]; exact hm) hv ha hn hdb he hpl) fun σ H Q ⟨P, s, G, o, q⟩ => stepA o q fun vs ds s1 G1 H1 g o1 r1 q1 => by
    obtain ⟨z, e, q2⟩ := Post.opt q1
    exact hp _ _ _ G1 _ _ o1.base.gh r1 e fun u G' H' l ru => q2 G' H' l.g (o1.leave l) u ru
theorem b_callB {id : String} {r : List V → Hp → VK → Prop} {f : List D → Option Bool} {x : Str} {p : Pos} {es : List Expr} {ms : M (List D)} [ck : Cok0 Z X] (hc : CallR X (.builtin id) r) (hp : PrimCB Z r f) (hm : Z.mg x = none) (hv : bootBuiltins x = some (.builtin id)) (ha : PA X (a :: es) (rdA Z Ex Γ ms)) (hg : Gl X x := by rfl) (hn : x ≠ "__name__" := by decide)
    (hdb : (x == ("__debug__" : Str)) = false := by decide) (he : starEach (a :: es) X.env = (false, eval a X.env) :: starEach es X.env := by rfl) (hpl : (backTo pos (starEach es X.env)).any (·.1) = false := by rfl) :
    PE X (.Call (.Name x p) (a :: es) [] pos) (rdB Z Ex Γ (M.bind ms fun ds => M.opt (f ds))) :=
  pe_imp (pe_callB hc hg (by rw [ck.mg]; exact hm) hv ha hn hdb he hpl) fun σ H Q ⟨P, s, G, o, q⟩ => stepA o q fun vs ds s1 G1 H1 g o1 r1 q1 => by
    obtain ⟨z, e, q2⟩ := Post.opt q1
    exact hp _ _ _ G1 _ _ o1.base.gh r1 e (Post.pure q2 o1)
theorem l_callB {id : String} {r : List V → Hp → VK → Prop} {f : List D → Option (List D)} {x : Str} {p : Pos} {es : List Expr} {ms : M (List D)} [ck : Cok0 Z X] (hc : CallR X (.builtin id) r) (hp : PrimCL Z r f) (hm : Z.mg x = none) (hv : bootBuiltins x = some (.builtin id)) (ha : PA X (a :: es) (rdA Z Ex Γ ms)) (hg : Gl X x := by rfl) (hn : x ≠ "__name__" := by decide)
    (hdb : (x == ("__debug__" : Str)) = false := by decide) (he : starEach (a :: es) X.env = (false, eval a X.env) :: starEach es X.env := by rfl) (hpl : (backTo pos (starEach es X.env)).any (·.1) = false := by rfl) :
    PE X (.Call (.Name x p) (a :: es) [] pos) (rdL Z Ex Γ (M.bind ms fun ds => M.opt (f ds))) :=
  pe_imp (pe_callB hc hg (by rw [ck.mg]; exact hm) hv ha hn hdb he hpl) fun σ H Q ⟨P, s, G, o, q⟩ => stepA o q fun vs ds s1 G1 H1 g o1 r1 q1 => by
    obtain ⟨z, e, q2⟩ := Post.opt q1
    exact hp _ _ _ G1 _ _ o1.base.gh r1 e (Post.pure q2 o1)
theorem e_callTy {T : String} {r : List V → Hp → VK → Prop} {f : List D → Option D} {x : Str} {p : Pos} {es : List Expr} {ms : M (List D)} [ck : Cok0 Z X] (hc : CallR X (.type T) r) (hp : PrimC Z r f) (hm : Z.mg x = none) (hv : bootBuiltins x = some (.type T)) (ha : PA X (a :: es) (rdA Z Ex Γ ms)) (hg : Gl X x := by rfl) (hn : x ≠ "__name__" := by decide)
    (hdb : (x == ("__debug__" : Str)) = false := by decide) (he : starEach (a :: es) X.env = (false, eval a X.env) :: starEach es X.env := by rfl) (hpl : (backTo pos (starEach es X.env)).any (·.1) = false := by rfl) :
    PE X (.Call (.Name x p) (a :: es) [] pos) (rdE Z Ex Γ (M.bind ms fun ds => M.opt (f ds))) :=
  pe_imp (pe_callTy hc hg (by rw [ck.mg]; exact hm) hv ha hn hdb he hpl) fun σ H Q ⟨P, s, G, o, q⟩ => stepA o q fun vs ds s1 G1 H1 g o1 r1 q1 => by
    obtain ⟨z, e, q2⟩ := Post.opt q1
    exact hp _ _ _ G1 _ _ o1.base.gh r1 e fun u G' H' l ru => q2 G' H' l.g (o1.leave l) u ru
theorem l_callTy {T : String} {r : List V → Hp → VK → Prop} {f : List D → Option (List D)} {x : Str} {p : Pos} {es : List Expr} {ms : M (List D)} [ck : Cok0 Z X] (hc : CallR X (.type T) r) (hp : PrimCL Z r f) (hm : Z.mg x = none) (hv : bootBuiltins x = some (.type T)) (ha : PA X (a :: es) (rdA Z Ex Γ ms)) (hg : Gl X x := by rfl) (hn : x ≠ "__name__" := by decide)
    (hdb : (x == ("__debug__" : Str)) = false := by decide) (he : starEach (a :: es) X.env = (false, eval a X.env) :: starEach es X.env := by rfl) (hpl : (backTo pos (starEach es X.env)).any (·.1) = false := by rfl) :
    PE X (.Call (.Name x p) (a :: es) [] pos) (rdL Z Ex Γ (M.bind ms fun ds => M.opt (f ds))) :=
  pe_imp (pe_callTy hc hg (by rw [ck.mg]; exact hm) hv ha hn hdb he hpl) fun σ H Q ⟨P, s, G, o, q⟩ => stepA o q fun vs ds s1 G1 H1 g o1 r1 q1 => by
    obtain ⟨z, e, q2⟩ := Post.opt q1
    exact hp _ _ _ G1 _ _ o1.base.gh r1 e (Post.pure q2 o1)
end
end Sim
end
section
set_option Elab.async false
set_option linter.all false
set_option maxRecDepth 100000
set_option maxHeartbeats 400000
namespace Sim
open PySem PySem.Spec PyProof.Rows L2
section
variable {X : Cx}
theorem opR_or {f : Value → Value → Sem Value} {r r' : R2} (h : OpR X f r) (h' : OpR X f r') : OpR X f (fun x y H Q => r x y H Q ∨ r' x y H Q) := fun pins s σ H x y v u Q I rx ry q => q.elim (h pins s σ H x y v u Q I rx ry) (h' pins s σ H x y v u Q I rx ry)
theorem callR_or {f : Value} {r r' : List V → Hp → VK → Prop} (h : CallR X f r) (h' : CallR X f r') : CallR X f (fun x H Q => r x H Q ∨ r' x H Q) := fun pins s σ H x us Q I rx q => q.elim (h pins s σ H x us Q I rx) (h' pins s σ H x us Q I rx)
end
/-! ### the primitives over data -/
def dAdd : D → D → Option D
  | .int i, .int j => some (.int (i + j))
  | .str a, .str b => if a.length + b.length ≤ 1000000 then some (.str (a ++ b)) else none
  | .tuple a, .tuple b => if a.length + b.length ≤ 1000000 then some (.tuple (a ++ b)) else none
  | _, _ => none
def dAddL : D → D → Option (List D)
  | .list a, .list b => if a.length + b.length ≤ 1000000 then some (a ++ b) else none
  | _, _ => none
def dSub : D → D → Option D
  | .int i, .int j => some (.int (i - j))
  | _, _ => none
def dMul : D → D → Option D
  | .int i, .int j => if (-(2 ^ 64) < i ∧ i < 2 ^ 64) ∨ (-(2 ^ 64) < j ∧ j < 2 ^ 64) then some (.int (i * j)) else none
  | .tuple a, .int k => if a ≠ [] ∧ 2 ≤ k ∧ k ≤ 1000 ∧ a.length ≤ 1000 then some (.tuple (List.replicate k.toNat a).flatten) else none
  | _, _ => none
def dMulL : D → D → Option (List D)
  | .list a, .int k => if -1000000 ≤ k ∧ k ≤ 1000000 ∧ a.length * k.toNat ≤ 1000000 then some (List.replicate k.toNat a).flatten else none
  | _, _ => none
def dMod : D → D → Option D
  | .int i, .int j => if 0 < j then some (.int (i % j)) else none
  | _, _ => none
def dFdiv : D → D → Option D
  | .int i, .int j => if 0 < j ∧ j < 1073741824 then some (.int (i / j)) else none
  | _, _ => none
def dPow : D → D → Option D
  | .int i, .int j => if 0 ≤ j ∧ j ≤ 1000000 ∧ i.natAbs < 2 ^ 64 then some (.int (i ^ j.toNat)) else none
  | _, _ => none
def dNeg : D → Option D
  | .int i => some (.int (-i))
  | _ => none
def dCmp (p : Int → Int → Bool) : D → D → Option Bool
  | .int i, .int j => some (p i j)
  | _, _ => none
abbrev dLt := dCmp fun i j => decide (i < j)
abbrev dLe := dCmp fun i j => decide (i ≤ j)
abbrev dGt := dCmp fun i j => decide (j < i)
abbrev dGe := dCmp fun i j => decide (j ≤ i)
def dEq (x y : D) : Option Bool := if SeqAt.shaped x && SeqAt.shaped y then some (PyData.eqv x y) else none
def dNe (x y : D) : Option Bool := if SeqAt.shaped x && SeqAt.shaped y then some (!PyData.eqv x y) else none
def flatD : D → Bool
  | .none => true
  | .bool _ => true
  | .int _ => true
  | .str _ => true
  | _ => false
def dItems : D → Option (List D)
  | .list l => some l
  | .tuple l => some l
  | _ => none
def dIn (x c : D) : Option Bool := match c with
  | .list l => if flatD x && l.all flatD then some (l.any fun z => PyData.eqv z x) else if SeqAt.shaped x && SeqAt.shaped (.list l) then some (l.any fun z => PyData.eqv z x) else none
  | .tuple l => if flatD x && l.all flatD then some (l.any fun z => PyData.eqv z x) else none
  | _ => none
def dNotIn (x c : D) : Option Bool := (dIn x c).map (!·)
def dIsN (x : D) : Bool := match x with
  | .none => true
  | _ => false
def dItem (x i : D) : Option D := match x, i with
  | .list l, .int i => atI l i
  | .tuple l, .int i => atI l i
  | .str z, .int i => if z.length ≤ 1000000 then (atI z.cps.toList i).map fun c => .str ⟨#[c]⟩ else none
  | _, _ => none
def dLen : List D → Option D
  | [.list l] => some (.int (l.length : Nat))
  | [.tuple l] => some (.int (l.length : Nat))
  | [.str z] => if z.length ≤ 1000000 then some (.int (z.length : Nat)) else none
  | _ => none
def dAbs : List D → Option D
  | [.int i] => some (.int (if i < 0 then -i else i))
  | _ => none
def dInt : List D → Option D
  | [.int i] => some (.int i)
  | [.bool b] => some (.int (if b then 1 else 0))
  | _ => none
def dTuple : List D → Option D
  | [.list l] => some (.tuple l)
  | [.tuple l] => some (.tuple l)
  | _ => none
def dListOf : List D → Option (List D)
  | [.list l] => some l
  | [.tuple l] => some l
  | _ => none
def boolsOf : List D → Option (List Bool)
  | [] => some []
  | .bool b :: r => (boolsOf r).map (b :: ·)
  | _ :: _ => none
def intsOf : List D → Option (List Int)
  | [] => some []
  | .int i :: r => (intsOf r).map (i :: ·)
  | _ :: _ => none
@[simp] theorem bools_map (l : List Bool) : boolsOf (l.map PyData.bool) = some l := by
  induction l with
  | nil => rfl
  | cons a r ih => simp [boolsOf, ih]
@[simp] theorem ints_map (l : List Int) : intsOf (l.map PyData.int) = some l := by
  induction l with
  | nil => rfl
  | cons a r ih => simp [intsOf, ih]
theorem bools_eq : ∀ {l : List D} {bs : List Bool}, boolsOf l = some bs → l = bs.map PyData.bool
  | [], _, h => by simp [boolsOf] at h; subst h; rfl
  | .bool b :: r, _, h => by
    simp only [boolsOf, Option.map_eq_some_iff] at h
    obtain ⟨bs, e, rfl⟩ := h
    simp [bools_eq e]
  | .none :: _, _, h => by simp [boolsOf] at h
  | .int _ :: _, _, h => by simp [boolsOf] at h
  | .str _ :: _, _, h => by simp [boolsOf] at h
  | .list _ :: _, _, h => by simp [boolsOf] at h
  | .tuple _ :: _, _, h => by simp [boolsOf] at h
  | .dict _ :: _, _, h => by simp [boolsOf] at h
theorem ints_eq : ∀ {l : List D} {bs : List Int}, intsOf l = some bs → l = bs.map PyData.int
  | [], _, h => by simp [intsOf] at h; subst h; rfl
  | .int b :: r, _, h => by
    simp only [intsOf, Option.map_eq_some_iff] at h
    obtain ⟨bs, e, rfl⟩ := h
    simp [ints_eq e]
  | .none :: _, _, h => by simp [intsOf] at h
  | .bool _ :: _, _, h => by simp [intsOf] at h
  | .str _ :: _, _, h => by simp [intsOf] at h
  | .list _ :: _, _, h => by simp [intsOf] at h
  | .tuple _ :: _, _, h => by simp [intsOf] at h
  | .dict _ :: _, _, h => by simp [intsOf] at h
def dAll : List D → Option Bool
  | [.list l] => (boolsOf l).map fun bs => bs.all id
  | _ => none
def dAny : List D → Option Bool
  | [.list l] => (boolsOf l).map fun bs => bs.any id
  | _ => none
def dSum : List D → Option D
  | [.list l] => (intsOf l).map fun ns => .int ns.sum
  | _ => none
def srt (l : List Int) : List Int := l.mergeSort
def dSorted : List D → Option (List D)
  | [.list l] => if l.length ≤ 1000000 then (intsOf l).map fun ns => (srt ns).map PyData.int else none
  | _ => none
theorem srt_perm (l : List Int) : (srt l).Perm l := List.mergeSort_perm l _
theorem srt_sorted (l : List Int) : (srt l).Pairwise (· ≤ ·) := by
  have h := List.pairwise_mergeSort (le := fun a b : Int => decide (a ≤ b)) (fun a b c => by simp; omega) (fun a b => by simp; omega) l
  exact h.imp fun h => by simpa using h
theorem srt_unique {l m : List Int} (p : m.Perm l) (s : m.Pairwise (· ≤ ·)) : m = srt l := PySem.W.ksm_same (p.trans (srt_perm l).symm) s (srt_sorted l)

/-! ### what stands for data without dicts -/
section
variable {K : PySem.W.Frag} {H : Hp}
mutual
theorem Rp.dp : ∀ {v : V} {d : D}, Rp K H v d → PyData.canLay0 d = true → Dp K H v d
  | _, _, .non, _ => .non
  | _, _, .bl b, _ => .bl b
  | _, _, .int b, _ => .int b
  | _, _, .str b, _ => .str b
  | _, _, .lst h r, l => .lst (.inl (.inl h)) (Rps.dp r (by simpa [PyData.canLay0] using l))
  | _, _, .tup h r, l => .tup (.inl (.inl h)) (Rps.dp r (by simpa [PyData.canLay0] using l))
  | _, _, .dct _ _, l => by simp [PyData.canLay0] at l
theorem Rps.dp : ∀ {v : List V} {d : List D}, Rps K H v d → PyData.canLayAll0 d = true → DpAll K H v d
  | _, _, .nil, _ => .nil
  | _, _, .cons a r, l => by
    simp only [PyData.canLayAll0, Bool.and_eq_true] at l
    exact .cons (Rp.dp a l.1) (Rps.dp r l.2)
end
theorem Rp.flat {v : V} {d : D} (h : Rp K H v d) (f : flatD d = true) : flatV v = true := by
  cases h <;> first | rfl | simp [flatD] at f
theorem Rps.flat : ∀ {vs : List V} {ds : List D}, Rps K H vs ds → ds.all flatD = true → vs.all flatV = true
  | _, _, .nil, _ => rfl
  | _, _, .cons a r, f => by
    simp only [List.all_cons, Bool.and_eq_true] at f ⊢
    exact ⟨a.flat f.1, Rps.flat r f.2⟩
theorem Rp.eqv {v w : V} {d e : D} (h : Rp K H v d) (h' : Rp K H w e) (f : flatD d = true) (f' : flatD e = true) : eqV v w = PyData.eqv d e := by
  cases h <;> cases h' <;> simp [flatD, eqV, PyData.eqv] at f f' ⊢
theorem Rps.inV {v : V} {d : D} (h : Rp K H v d) (f : flatD d = true) : ∀ {vs : List V} {ds : List D}, Rps K H vs ds → ds.all flatD = true → inV v vs = ds.any fun z => PyData.eqv z d
  | _, _, .nil, _ => rfl
  | _, _, .cons a r, g => by
    simp only [List.all_cons, Bool.and_eq_true] at g
    have ih := Rps.inV h f r g.2
    unfold L2.inV at ih ⊢
    rw [List.any_cons, List.any_cons, ih, a.eqv h g.1 f]
theorem rp_mono_all {K : PySem.W.Frag} {H H' : Hp} (s : Same H H') {v : V} {d : D} (h : Rp K H v d) : Rp K H' v d := h.mono s
theorem Rps.map_int : ∀ {vs : List V} {l : List D} {ns : List Int}, Rps K H vs l → intsOf l = some ns → vs = ns.map V.int := fun {vs l ns} h e => by
  have := ints_eq e
  subst this
  exact Rps.ints h
theorem rps_bools : ∀ {vs : List V} {bs : List Bool}, Rps K H vs (bs.map PyData.bool) → vs = bs.map V.bl
  | [], [], _ => rfl
  | [], _ :: _, h => by cases h
  | _ :: _, [], h => by cases h
  | v :: vs, n :: ns, h => by
    cases h with
    | cons a r =>
      cases a
      rw [List.map_cons, rps_bools r]
theorem rps_ints (ns : List Int) : Rps K H (ns.map V.int) (ns.map PyData.int) := by
  induction ns with
  | nil => exact .nil
  | cons a r ih => exact .cons (.int a) ih
theorem ixN_len {n m : Nat} (h : n = m) (i : Int) : ixN n i = ixN m i := by rw [h]
theorem Rps.atI {vs : List V} {ds : List D} {i : Int} {d : D} (h : Rps K H vs ds) (e : L2.atI ds i = some d) : ∃ v, L2.atI vs i = some v ∧ Rp K H v d := by
  unfold L2.atI at e ⊢
  rw [h.length]
  cases q : ixN ds.length i with
  | none => rw [q] at e; cases e
  | some j =>
    rw [q] at e
    exact Rps.get' h e
end
theorem big_line {n : Nat} (h : n ≤ 1000000) : n ≤ sizeLine := by rw [sizeLine_eq]; omega
section
variable {Z : Fx} {X : Cx}
theorem same_of {K : PySem.W.Frag} {G H : Hp} (g : Same G H) {v : V} {d : D} (h : Rp K G v d) : Rp K H v d := h.mono g
abbrev rAddA (K : PySem.W.Frag) : R2 := fun x y H Q => (rI0 (fun i j => .int (i + j)) x y H Q ∨ ∃ i j, x = .str i ∧ y = .str j ∧ i.length + j.length ≤ sizeLine ∧ Q (.str (i ++ j)) H) ∨ rCatA K x y H Q
theorem o_add [ck : Cok0 Z X] : OpR X (binaryOp .Add) (rAddA Z.K) := ck.K ▸ opR_or (opR_or op_add op_add_str) op_catA
theorem p_add : Prim2 Z (rAddA Z.K) dAdd := by
  intro x y dx dy d G H Q g hx hy e q
  cases hx with
  | int i =>
    cases hy <;> simp [dAdd] at e
    subst e
    exact .inl (.inl ⟨_, _, rfl, rfl, q _ G H (.refl g) (.int _)⟩)
  | str i =>
    cases hy <;> simp [dAdd] at e
    obtain ⟨h, e⟩ := e
    subst e
    exact .inl (.inr ⟨_, _, rfl, rfl, big_line h, q _ G H (.refl g) (.str _)⟩)
  | @tup a xs ds h r =>
    cases hy <;> simp [dAdd] at e
    rename_i b ys es h' r'
    obtain ⟨hz, e⟩ := e
    subst e
    have l1 := r.length
    have l2 := r'.length
    refine .inr ⟨a, b, xs, ys, rfl, rfl, .inl (.inl (g _ _ h)), .inl (.inl (g _ _ h')), big_line (by omega), fun e => ?_, fun _ e => ?_, fun _ _ p hp => ?_⟩
    · subst e
      cases r
      exact q _ G H (.refl g) (.tup h' r')
    · subst e
      cases r'
      rw [List.append_nil] at q
      exact q _ G H (.refl g) (.tup h r)
    · exact q _ _ _ (.new g hp) (.tup upd_same ((r.append r').mono (same_upd (g.free hp))))
  | non => simp [dAdd] at e
  | bl b => simp [dAdd] at e
  | lst h r => simp [dAdd] at e
  | dct h r => simp [dAdd] at e
theorem p_addL : Prim2L Z rCat dAddL := by
  intro x y dx dy d G H Q g hx hy e q
  cases hx <;> cases hy <;> simp [dAddL] at e
  rename_i a xs ds h r b ys es h' r'
  obtain ⟨hz, e⟩ := e
  subst e
  have l1 := r.length
  have l2 := r'.length
  exact ⟨a, b, xs, ys, rfl, rfl, g _ _ h, g _ _ h', big_line (by omega), fun p hp => q p _ hp (r.append r')⟩
theorem int2 {f : Int → Int → Int} {C : Int → Int → Prop} {r : R2} {fd : D → D → Option D} (hr : ∀ i j H Q, C i j → Q (.int (f i j)) H → r (.int i) (.int j) H Q) (hf : ∀ x y d, fd x y = some d → ∃ i j, x = .int i ∧ y = .int j ∧ C i j ∧ d = .int (f i j)) : Prim2 Z r fd := by
  intro x y dx dy d G H Q g hx hy e q
  obtain ⟨i, j, rfl, rfl, c, rfl⟩ := hf _ _ _ e
  cases hx
  cases hy
  exact hr i j H Q c (q _ G H (.refl g) (.int _))
theorem p_sub : Prim2 Z (rI0 fun i j => .int (i - j)) dSub := int2 (C := fun _ _ => True) (f := fun i j => i - j) (fun i j H Q _ q => ⟨i, j, rfl, rfl, q⟩) fun x y d e => by
  cases x <;> cases y <;> simp [dSub] at e
  exact ⟨_, _, rfl, rfl, trivial, e.symm⟩
theorem p_mod : Prim2 Z (rI (fun _ j => 0 < j) fun i j => .int (i % j)) dMod := int2 (C := fun _ j => 0 < j) (f := fun i j => i % j) (fun i j H Q c q => ⟨i, j, rfl, rfl, c, q⟩) fun x y d e => by
  cases x <;> cases y <;> simp [dMod] at e
  exact ⟨_, _, rfl, rfl, e.1, e.2.symm⟩
theorem p_fdiv : Prim2 Z (rI CDiv fun i j => .int (i / j)) dFdiv := int2 (C := CDiv) (f := fun i j => i / j) (fun i j H Q c q => ⟨i, j, rfl, rfl, c, q⟩) fun x y d e => by
  cases x <;> cases y <;> simp [dFdiv] at e
  exact ⟨_, _, rfl, rfl, e.1, e.2.symm⟩
theorem p_pow : Prim2 Z (rI CPow fun i j => .int (i ^ j.toNat)) dPow := int2 (C := CPow) (f := fun i j => i ^ j.toNat) (fun i j H Q c q => ⟨i, j, rfl, rfl, c, q⟩) fun x y d e => by
  cases x <;> cases y <;> simp [dPow] at e
  exact ⟨_, _, rfl, rfl, e.1, e.2.symm⟩
abbrev rMulA (K : PySem.W.Frag) : R2 := fun x y H Q => rI CMul (fun i j => .int (i * j)) x y H Q ∨ rRepT K x y H Q
theorem o_mul [ck : Cok0 Z X] : OpR X (binaryOp .Mult) (rMulA Z.K) := ck.K ▸ opR_or op_mul op_repT
theorem rps_rep {K : PySem.W.Frag} {H : Hp} {vs : List V} {ds : List D} (h : Rps K H vs ds) : ∀ n, Rps K H (List.replicate n vs).flatten (List.replicate n ds).flatten
  | 0 => .nil
  | n + 1 => by
    rw [List.replicate_succ, List.replicate_succ, List.flatten_cons, List.flatten_cons]
    exact h.append (rps_rep h n)
theorem p_mul : Prim2 Z (rMulA Z.K) dMul := by
  intro x y dx dy d G H Q g hx hy e q
  cases hx with
  | int i =>
    cases hy <;> simp [dMul] at e
    obtain ⟨c, rfl⟩ := e
    exact .inl ⟨_, _, rfl, rfl, c, q _ G H (.refl g) (.int _)⟩
  | @tup a xs ds h r =>
    cases hy <;> simp [dMul] at e
    rename_i k
    obtain ⟨⟨c0, c1, c2, c3⟩, rfl⟩ := e
    have l1 := r.length
    exact .inr ⟨a, k, xs, rfl, rfl, .inl (.inl (g _ _ h)), (fun e => c0 (by subst e; cases r; rfl)), c1, c2, (by omega), fun p hp => q _ _ _ (.new g hp) (.tup upd_same ((rps_rep r _).mono (same_upd (g.free hp))))⟩
  | _ => simp [dMul] at e
theorem p_mulL : Prim2L Z rRep dMulL := by
  intro x y dx dy d G H Q g hx hy e q
  cases hx <;> cases hy <;> simp [dMulL] at e
  rename_i a xs ds h r k
  obtain ⟨⟨c0, c1, c2⟩, rfl⟩ := e
  have l1 := r.length
  refine ⟨a, k, xs, rfl, rfl, g _ _ h, by omega, by omega, by rw [l1]; exact big_line c2, fun p hp => ?_⟩
  exact q p _ hp (rps_rep r _)
end
end Sim
end
section
set_option Elab.async false
set_option linter.all false
set_option maxRecDepth 100000
set_option maxHeartbeats 400000
namespace Sim
open PySem PySem.Spec PyProof.Rows L2
section
variable {Z : Fx} {X : Cx}
theorem p_cmp {p : Int → Int → Bool} : PrimB Z (rI0 fun i j => .bl (p i j)) (dCmp p) := by
  intro x y dx dy b G H Q g hx hy e q
  cases hx <;> cases hy <;> simp [dCmp] at e
  subst e
  exact ⟨_, _, rfl, rfl, q⟩
theorem o_eq [ck : Cok0 Z X] : OpR X (compareOp .Eq) (rEqD Z.K) := ck.K ▸ op_eqD (Nat.lt_of_le_of_lt (by omega) ck.hu)
theorem o_ne [ck : Cok0 Z X] : OpR X (compareOp .NotEq) (rNeD Z.K) := ck.K ▸ op_neD (Nat.lt_of_le_of_lt (by omega) ck.hu)
theorem lay_of_shaped {d : D} (h : SeqAt.shaped d = true) : PyData.canLay0 d = true := SeqAt.canLay_of_shaped h
theorem p_eq : PrimB Z (rEqD Z.K) dEq := by
  intro x y dx dy b G H Q g hx hy e q
  unfold dEq at e
  split at e
  · rename_i h
    cases e
    rw [Bool.and_eq_true] at h
    exact ⟨dx, dy, (hx.mono g).dp (lay_of_shaped h.1), (hy.mono g).dp (lay_of_shaped h.2), h.1, h.2, q⟩
  · cases e
theorem p_ne : PrimB Z (rNeD Z.K) dNe := by
  intro x y dx dy b G H Q g hx hy e q
  unfold dNe at e
  split at e
  · rename_i h
    cases e
    rw [Bool.and_eq_true] at h
    exact ⟨dx, dy, (hx.mono g).dp (lay_of_shaped h.1), (hy.mono g).dp (lay_of_shaped h.2), h.1, h.2, q⟩
  · cases e
abbrev rInA (K : PySem.W.Frag) : R2 := fun x y H Q => rIn K false x y H Q ∨ rInD K x y H Q
abbrev rNotInA (K : PySem.W.Frag) : R2 := fun x y H Q => rIn K true x y H Q ∨ rNotInD K x y H Q
theorem o_in [ck : Cok0 Z X] : OpR X (compareOp .In) (rInA Z.K) := ck.K ▸ opR_or op_in_seq (op_inD (Nat.lt_of_le_of_lt (by omega) ck.hu))
theorem o_notin [ck : Cok0 Z X] : OpR X (compareOp .NotIn) (rNotInA Z.K) := ck.K ▸ opR_or op_notIn_seq (op_notInD (Nat.lt_of_le_of_lt (by omega) ck.hu))
theorem p_in : PrimB Z (rInA Z.K) dIn := by
  intro x y dx dy b G H Q g hx hy e q
  cases hy with
  | @lst a xs ds h r =>
    simp only [dIn] at e
    split at e
    · rename_i f
      cases e
      rw [Bool.and_eq_true] at f
      refine .inl ⟨a, xs, rfl, .inl (.inl (.inl (g _ _ h))), hx.flat f.1, r.flat f.2, ?_⟩
      show Q (.bl (if false = true then _ else inV x xs)) H
      rw [if_neg Bool.false_ne_true, Rps.inV hx f.1 r f.2]
      exact q
    · split at e
      · rename_i f
        cases e
        rw [Bool.and_eq_true] at f
        exact .inr ⟨dx, ds, (hx.mono g).dp (lay_of_shaped f.1), ((Rp.lst h r).mono g).dp (lay_of_shaped f.2), f.1, f.2, q⟩
      · cases e
  | @tup a xs ds h r =>
    simp only [dIn] at e
    split at e
    · rename_i f
      cases e
      rw [Bool.and_eq_true] at f
      refine .inl ⟨a, xs, rfl, .inr (.inl (.inl (g _ _ h))), hx.flat f.1, r.flat f.2, ?_⟩
      show Q (.bl (if false = true then _ else inV x xs)) H
      rw [if_neg Bool.false_ne_true, Rps.inV hx f.1 r f.2]
      exact q
    · cases e
  | _ => simp [dIn] at e
theorem p_notin : PrimB Z (rNotInA Z.K) dNotIn := by
  intro x y dx dy b G H Q g hx hy e q
  unfold dNotIn at e
  rw [Option.map_eq_some_iff] at e
  obtain ⟨c, e, rfl⟩ := e
  cases hy with
  | @lst a xs ds h r =>
    simp only [dIn] at e
    split at e
    · rename_i f
      cases e
      rw [Bool.and_eq_true] at f
      refine .inl ⟨a, xs, rfl, .inl (.inl (.inl (g _ _ h))), hx.flat f.1, r.flat f.2, ?_⟩
      show Q (.bl (if true = true then !inV x xs else _)) H
      rw [if_pos rfl, Rps.inV hx f.1 r f.2]
      exact q
    · split at e
      · rename_i f
        cases e
        rw [Bool.and_eq_true] at f
        exact .inr ⟨dx, ds, (hx.mono g).dp (lay_of_shaped f.1), ((Rp.lst h r).mono g).dp (lay_of_shaped f.2), f.1, f.2, q⟩
      · cases e
  | @tup a xs ds h r =>
    simp only [dIn] at e
    split at e
    · rename_i f
      cases e
      rw [Bool.and_eq_true] at f
      refine .inl ⟨a, xs, rfl, .inr (.inl (.inl (g _ _ h))), hx.flat f.1, r.flat f.2, ?_⟩
      show Q (.bl (if true = true then !inV x xs else _)) H
      rw [if_pos rfl, Rps.inV hx f.1 r f.2]
      exact q
    · cases e
  | _ => simp [dIn] at e
/-! ### is None -/
section
variable {Ex : XK} {Γ : List Slot} {a b c : Expr} {ma mb mc : M D} {pos : Pos}
theorem isN_rp {K : PySem.W.Frag} {H : Hp} {v : V} {d : D} (h : Rp K H v d) : decide (v = .non) = dIsN d := by
  cases h <;> first | rfl | simp [dIsN]
theorem b_isN {j pos'} (ha : PE X a (rdE Z Ex Γ ma)) : PE X (.Compare a [.Is] [.Constant .none j pos'] pos) (rdB Z Ex Γ (M.bind ma fun x => M.pure (dIsN x))) :=
  pe_imp (pe_cmp (pc_isN ha)) fun σ H Q ⟨P, s, G, o, q⟩ => stepE o q fun v d s1 G1 H1 g o1 r1 q1 => by
    rw [isN_rp r1]
    exact Post.pure q1 o1
theorem b_notN {j pos'} (ha : PE X a (rdE Z Ex Γ ma)) : PE X (.Compare a [.IsNot] [.Constant .none j pos'] pos) (rdB Z Ex Γ (M.bind ma fun x => M.pure (!dIsN x))) :=
  pe_imp (pe_cmp (pc_notN ha)) fun σ H Q ⟨P, s, G, o, q⟩ => stepE o q fun v d s1 G1 H1 g o1 r1 q1 => by
    rw [isN_rp r1]
    exact Post.pure q1 o1
theorem t_isN {j pos'} (ha : PE X a (rdE Z Ex Γ ma)) : PT X (.Compare a [.Is] [.Constant .none j pos'] pos) (rdT Z Ex Γ (M.bind ma fun x => M.pure (dIsN x))) :=
  pt_imp (pt_cmp (pc_isN ha)) fun σ H Q ⟨P, s, G, o, q⟩ => stepE o q fun v d s1 G1 H1 g o1 r1 q1 => by
    rw [isN_rp r1]
    exact ⟨_, rfl, Post.pure q1 o1⟩
theorem t_notN {j pos'} (ha : PE X a (rdE Z Ex Γ ma)) : PT X (.Compare a [.IsNot] [.Constant .none j pos'] pos) (rdT Z Ex Γ (M.bind ma fun x => M.pure (!dIsN x))) :=
  pt_imp (pt_cmp (pc_notN ha)) fun σ H Q ⟨P, s, G, o, q⟩ => stepE o q fun v d s1 G1 H1 g o1 r1 q1 => by
    rw [isN_rp r1]
    exact ⟨_, rfl, Post.pure q1 o1⟩
/-- an equality of truths, (x is None) == (y is None) -/
def bEq (x y : Bool) : Bool := x == y
theorem e_un {op : UnaryOp} {r : V → Hp → VK → Prop} {f : D → Option D} (ho : UnR X (unaryOp op) r) (hp : Prim1 Z r f) (ha : PE X a (rdE Z Ex Γ ma)) : PE X (.UnaryOp op a pos) (rdE Z Ex Γ (M.bind ma fun x => M.opt (f x))) :=
  pe_imp (pe_un ho ha) fun σ H Q ⟨P, s, G, o, q⟩ => stepE o q fun v d s1 G1 H1 g o1 r1 q1 => by
    obtain ⟨z, e, q3⟩ := Post.opt q1
    exact hp _ _ _ G1 _ _ o1.base.gh r1 e fun u G' H' l ru => q3 G' H' l.g (o1.leave l) u ru
theorem p_neg : Prim1 Z (rU fun i => .int (-i)) dNeg := by
  intro x dx d G H Q g hx e q
  cases hx <;> simp [dNeg] at e
  subst e
  exact ⟨_, rfl, q _ G H (.refl g) (.int _)⟩
/-! ### items and slices -/
theorem o_ix [ck : Cok0 Z X] : IxR X (rIx Z.K) := ck.K ▸ ix_seq
theorem p_ix : Prim2 Z (rIx Z.K) dItem := by
  intro x y dx dy d G H Q g hx hy e q
  cases hx with
  | @lst a xs ds h r =>
    cases hy <;> simp only [dItem] at e <;> try (cases e; done)
    rename_i i
    obtain ⟨v, e1, e2⟩ := Rps.atI r e
    exact .inl ⟨a, xs, i, v, rfl, rfl, .inl (.inl (g _ _ h)), e1, q v G H (.refl g) e2⟩
  | @tup a xs ds h r =>
    cases hy <;> simp only [dItem] at e <;> try (cases e; done)
    rename_i i
    obtain ⟨v, e1, e2⟩ := Rps.atI r e
    exact .inr (.inl ⟨a, xs, i, v, rfl, rfl, .inl (.inl (g _ _ h)), e1, q v G H (.refl g) e2⟩)
  | str z =>
    cases hy <;> simp only [dItem] at e <;> try (cases e; done)
    rename_i i
    split at e
    · rename_i hz
      rw [Option.map_eq_some_iff] at e
      obtain ⟨c, e1, rfl⟩ := e
      exact .inr (.inr ⟨z, i, c, rfl, rfl, big_line hz, e1, q _ G H (.refl g) (.str _)⟩)
    · cases e
  | _ => cases hy <;> simp [dItem] at e
/-- an end of a slice -/
def rdO (Z : Fx) (Ex : XK) (Γ : List Slot) (m : M (Option Int)) : TO := fun σ H Q => ∃ P s G, Ok Z P Γ s σ G H ∧ Post Z Ex P Γ σ G (m s) fun d _ _ H' => Q d H'
theorem o_none : PO X none (rdO Z Ex Γ (M.pure none)) := ⟨fun pins s σ H Q I ⟨P, s', G, o, q⟩ => po_none.run pins s σ H Q I (Post.pure q o)⟩
def dInt1 : D → Option Int
  | .int i => some i
  | _ => none
theorem o_some (ha : PE X a (rdE Z Ex Γ ma)) : PO X (some a) (rdO Z Ex Γ (M.bind ma fun x => M.bind (M.opt (dInt1 x)) fun i => M.pure (some i))) := ⟨fun pins s σ H Q I ⟨P, s', G, o, q⟩ => (po_some ha).run pins s σ H Q I (stepE o q fun v d s1 G1 H1 g o1 r1 q1 => by
  cases r1 with
  | int i => exact ⟨i, rfl, Post.pure q1 o1⟩
  | _ => exact q1.elim)⟩
def cutL {α : Type} (xs : List α) (lo hi : Option Int) : List α := (xs.drop (HT.sIx xs.length 0 lo)).take (HT.sIx xs.length xs.length hi - HT.sIx xs.length 0 lo)
theorem cutL_length {α : Type} (xs : List α) (lo hi : Option Int) : (cutL xs lo hi).length ≤ xs.length := by
  unfold cutL
  rw [List.length_take, List.length_drop]
  omega
theorem rps_cut {K : PySem.W.Frag} {H : Hp} {vs : List V} {ds : List D} (h : Rps K H vs ds) (lo hi : Option Int) : Rps K H (cutV vs lo hi) (cutL ds lo hi) := by
  unfold cutV cutL
  rw [h.length]
  exact (h.drop _).take _
def dSlice (x : D) (lo hi : Option Int) : Option D := match x with
  | .tuple l => some (.tuple (cutL l lo hi))
  | _ => none
def dSliceL (x : D) (lo hi : Option Int) : Option (List D) := match x with
  | .list l => some (cutL l lo hi)
  | _ => none
theorem o_slT [ck : Cok0 Z X] : SlR X (rSlA Z.K) := ck.K ▸ sl_tupA
theorem o_slL [ck : Cok0 Z X] : SlR X (rSlL Z.K) := ck.K ▸ sl_list
theorem stepO {α β : Type} {P : Par} {G H : Hp} {s : List D} {σ : L2.St} {m : M (Option Int)} {k : Option Int → M β} {K : β → List D → Hp → Hp → Prop} {C : Option Int → Hp → Prop} (o : Ok Z P Γ s σ G H) (h : Post Z Ex P Γ σ G (M.bind m k s) K)
    (c : ∀ b s1 G1 H1, Same G G1 → Ok Z P Γ s1 σ G1 H1 → Post Z Ex P Γ σ G1 (k b s1) K → C b H1) : rdO Z Ex Γ m σ H C :=
  ⟨P, s, G, o, (Post.bind h).mono fun d s1 G1 H1 g o1 q => c d s1 G1 H1 g o1 q⟩
variable {lo hi : Option Expr} {ml mh : M (Option Int)} {p2 : Pos}
theorem e_slice [ck : Cok0 Z X] (he : PE X a (rdE Z Ex Γ ma)) (hl : PO X lo (rdO Z Ex Γ ml)) (hu : PO X hi (rdO Z Ex Γ mh)) :
    PE X (.Subscript a (.Slice lo hi none p2) pos) (rdE Z Ex Γ (M.bind ma fun x => M.bind ml fun l => M.bind mh fun h => M.opt (dSlice x l h))) :=
  pe_imp (pe_slice (o_slT (Z := Z)) he hl hu) fun σ H Q ⟨P, s, G, o, q⟩ => stepE o q fun v d s1 G1 H1 g o1 r1 q1 => stepO (α := D) o1 q1 fun l s2 G2 H2 g2 o2 q2 => stepO (α := D) o2 q2 fun h s3 G3 H3 g3 o3 q3 => by
    obtain ⟨z, e, q4⟩ := Post.opt q3
    have r3 := (r1.mono g2).mono g3
    cases r3 <;> simp [dSlice] at e
    rename_i a xs ds ha r
    subst e
    have hl := r.length
    refine ⟨a, xs, rfl, .inl (.inl (o3.base.gh _ _ ha)), fun hw => ?_, fun _ p hp => ?_⟩
    · have : cutL ds l h = ds := by
        unfold cutL
        rw [hl] at hw
        rw [hw.1, hw.2]
        simp
      rw [this] at q4
      exact Post.pure q4 o3 _ (.tup ha r)
    · exact q4 _ _ (same_upd (o3.base.gh.free hp)) (o3.leave (.new o3.base.gh hp)) _ (.tup upd_same ((rps_cut r l h).mono (same_upd (o3.base.gh.free hp))))
theorem l_slice [ck : Cok0 Z X] (he : PE X a (rdE Z Ex Γ ma)) (hl : PO X lo (rdO Z Ex Γ ml)) (hu : PO X hi (rdO Z Ex Γ mh)) :
    PE X (.Subscript a (.Slice lo hi none p2) pos) (rdL Z Ex Γ (M.bind ma fun x => M.bind ml fun l => M.bind mh fun h => M.opt (dSliceL x l h))) :=
  pe_imp (pe_slice (o_slL (Z := Z)) he hl hu) fun σ H Q ⟨P, s, G, o, q⟩ => stepE o q fun v d s1 G1 H1 g o1 r1 q1 => stepO (α := List D) o1 q1 fun l s2 G2 H2 g2 o2 q2 => stepO (α := List D) o2 q2 fun h s3 G3 H3 g3 o3 q3 => by
    obtain ⟨z, e, q4⟩ := Post.opt q3
    have r3 := (r1.mono g2).mono g3
    cases r3 <;> simp [dSliceL] at e
    rename_i a xs ds ha r
    subst e
    exact ⟨a, xs, rfl, .inl (.inl (o3.base.gh _ _ ha)), fun p hp => Post.pure q4 o3 p _ hp (rps_cut r l h)⟩
theorem l_rev {k : Nat} {p1 p3 p4 : Pos} [ck : Cok0 Z X] (he : PE X a (rdE Z Ex Γ ma)) : PE X (.Subscript a (.Slice none none (some (.UnaryOp .USub (.Constant (.int 1) k p1) p4)) p3) pos) (rdL Z Ex Γ (M.bind ma fun x => M.opt (dListOf [x] |>.bind fun l => match x with | .list _ => some l.reverse | _ => none))) :=
  pe_imp (ck.K ▸ pe_revL he) fun σ H Q ⟨P, s, G, o, q⟩ => stepE o q fun v d s1 G1 H1 g o1 r1 q1 => by
    obtain ⟨z, e, q4⟩ := Post.opt q1
    cases r1 <;> simp [dListOf] at e
    rename_i a xs ds ha r
    subst e
    exact ⟨a, xs, rfl, .inl (.inl (o1.base.gh _ _ ha)), fun p hp => Post.pure q4 o1 p _ hp r.reverse⟩
end
/-! ### functions that are built in -/
theorem c_len [ck : Cok0 Z X] : CallR X (.builtin "len") (fun xs H Q => ∃ x n, xs = [x] ∧ LenV Z.K x H n ∧ Q (.int n) H) := ck.K ▸ call_len
theorem p_len : PrimC Z (fun xs H Q => ∃ x n, xs = [x] ∧ LenV Z.K x H n ∧ Q (.int n) H) dLen := by
  intro xs ds d G H Q g hx e q
  cases hx with
  | nil => simp [dLen] at e
  | cons a r =>
    cases r with
    | cons b r => cases a <;> simp [dLen] at e
    | nil =>
      cases a with
      | lst h r =>
        simp [dLen] at e
        subst e
        refine ⟨_, _, rfl, .inl ⟨_, .inl (.inl (g _ _ h)), rfl⟩, ?_⟩
        rw [r.length]
        exact q _ G H (.refl g) (.int _)
      | tup h r =>
        simp [dLen] at e
        subst e
        refine ⟨_, _, rfl, .inr ⟨_, .inl (.inl (g _ _ h)), rfl⟩, ?_⟩
        rw [r.length]
        exact q _ G H (.refl g) (.int _)
      | str z =>
        simp [dLen] at e
        obtain ⟨h, e⟩ := e
        subst e
        exact ⟨_, _, rfl, ⟨big_line h, rfl⟩, q _ G H (.refl g) (.int _)⟩
      | _ => simp [dLen] at e
theorem p_abs : PrimC Z (fun xs H Q => ∃ i, xs = [.int i] ∧ Q (.int (if i < 0 then -i else i)) H) dAbs := by
  intro xs ds d G H Q g hx e q
  cases hx with
  | nil => simp [dAbs] at e
  | cons a r =>
    cases r with
    | cons b r => cases a <;> simp [dAbs] at e
    | nil =>
      cases a <;> simp [dAbs] at e
      subst e
      exact ⟨_, rfl, q _ G H (.refl g) (.int _)⟩
theorem p_int : PrimC Z (fun xs H Q => (∃ i, xs = [.int i] ∧ Q (.int i) H) ∨ ∃ k, xs = [.bl k] ∧ Q (.int (if k then 1 else 0)) H) dInt := by
  intro xs ds d G H Q g hx e q
  cases hx with
  | nil => simp [dInt] at e
  | cons a r =>
    cases r with
    | cons b r => cases a <;> simp [dInt] at e
    | nil =>
      cases a <;> simp [dInt] at e
      · subst e
        exact .inr ⟨_, rfl, q _ G H (.refl g) (.int _)⟩
      · subst e
        exact .inl ⟨_, rfl, q _ G H (.refl g) (.int _)⟩
abbrev rTupleOf (K : PySem.W.Frag) : List V → Hp → VK → Prop := fun xs H Q => ∃ p ys, xs = [.ref p] ∧ ((SqL K H p ys ∧ ∀ l, H l = none → Q (.ref l) (upd H l (.tup ys))) ∨ (SqT K H p ys ∧ Q (.ref p) H))
theorem c_tuple [ck : Cok0 Z X] : CallR X (.type "tuple") (rTupleOf Z.K) := ck.K ▸ call_tuple_of
theorem p_tuple : PrimC Z (rTupleOf Z.K) dTuple := by
  intro xs ds d G H Q g hx e q
  cases hx with
  | nil => simp [dTuple] at e
  | cons a r =>
    cases r with
    | cons b r => cases a <;> simp [dTuple] at e
    | nil =>
      cases a with
      | lst h r =>
        simp [dTuple] at e
        subst e
        exact ⟨_, _, rfl, .inl ⟨.inl (.inl (g _ _ h)), fun p hp => q _ _ _ (.new g hp) (.tup upd_same (r.mono (same_upd (g.free hp))))⟩⟩
      | tup h r =>
        simp [dTuple] at e
        subst e
        exact ⟨_, _, rfl, .inr ⟨.inl (.inl (g _ _ h)), q _ G H (.refl g) (.tup h r)⟩⟩
      | _ => simp [dTuple] at e
abbrev rListOf (K : PySem.W.Frag) : List V → Hp → VK → Prop := fun xs H Q => ∃ p ys, xs = [.ref p] ∧ (SqL K H p ys ∨ SqT K H p ys) ∧ ∀ l, H l = none → Q (.ref l) (upd H l (.lst ys))
theorem c_list [ck : Cok0 Z X] : CallR X (.type "list") (rListOf Z.K) := ck.K ▸ call_list_of
theorem p_list : PrimCL Z (rListOf Z.K) dListOf := by
  intro xs ds d G H Q g hx e q
  cases hx with
  | nil => simp [dListOf] at e
  | cons a r =>
    cases r with
    | cons b r => cases a <;> simp [dListOf] at e
    | nil =>
      cases a with
      | lst h r =>
        simp [dListOf] at e
        subst e
        exact ⟨_, _, rfl, .inl (.inl (.inl (g _ _ h))), fun p hp => q p _ hp r⟩
      | tup h r =>
        simp [dListOf] at e
        subst e
        exact ⟨_, _, rfl, .inr (.inl (.inl (g _ _ h))), fun p hp => q p _ hp r⟩
      | _ => simp [dListOf] at e
theorem c_all [ck : Cok Z X] : CallR X (.builtin "all") (rAll Z.K) := ck.K ▸ cr_all ck.calm
theorem c_any [ck : Cok Z X] : CallR X (.builtin "any") (rAny Z.K) := ck.K ▸ cr_any ck.calm
theorem p_all : PrimCB Z (rAll Z.K) dAll := by
  intro xs ds b G H Q g hx e q
  cases hx with
  | nil => simp [dAll] at e
  | cons a r =>
    cases r with
    | cons b r => cases a <;> simp [dAll] at e
    | nil =>
      cases a <;> simp [dAll] at e
      rename_i a xs ds h r
      obtain ⟨bs, e1, rfl⟩ := e
      have e2 := bools_eq e1
      subst e2
      have e3 := rps_bools r
      subst e3
      refine ⟨a, bs, rfl, .inl (.inl (g _ _ h)), ?_⟩
      exact q
theorem p_any : PrimCB Z (rAny Z.K) dAny := by
  intro xs ds b G H Q g hx e q
  cases hx with
  | nil => simp [dAny] at e
  | cons a r =>
    cases r with
    | cons b r => cases a <;> simp [dAny] at e
    | nil =>
      cases a <;> simp [dAny] at e
      rename_i a xs ds h r
      obtain ⟨bs, e1, rfl⟩ := e
      have e2 := bools_eq e1
      subst e2
      have e3 := rps_bools r
      subst e3
      refine ⟨a, bs, rfl, .inl (.inl (g _ _ h)), ?_⟩
      exact q
theorem c_sum [ck : Cok Z X] : CallR X (.builtin "sum") (rSum Z.K) := ck.K ▸ cr_sum ck.calm
theorem p_sum : PrimC Z (rSum Z.K) dSum := by
  intro xs ds d G H Q g hx e q
  cases hx with
  | nil => simp [dSum] at e
  | cons a r =>
    cases r with
    | cons b r => cases a <;> simp [dSum] at e
    | nil =>
      cases a <;> simp [dSum] at e
      rename_i a xs ds h r
      obtain ⟨ns, e1, rfl⟩ := e
      have e3 := r.map_int e1
      subst e3
      exact ⟨a, ns, rfl, .inl (.inl (g _ _ h)), q _ G H (.refl g) (.int _)⟩
theorem c_sorted [ck : Cok0 Z X] : CallR X (.builtin "sorted") (rSortedI Z.K) := ck.K ▸ cr_sortedI
theorem p_sorted : PrimCL Z (rSortedI Z.K) dSorted := by
  intro xs ds d G H Q g hx e q
  cases hx with
  | nil => simp [dSorted] at e
  | cons a r =>
    cases r with
    | cons b r => cases a <;> simp [dSorted] at e
    | nil =>
      cases a <;> simp [dSorted] at e
      rename_i a xs ds h r
      obtain ⟨hz, ns, e1, rfl⟩ := e
      have e3 := r.map_int e1
      subst e3
      refine ⟨a, ns, rfl, .inl (.inl (g _ _ h)), fun ns' p pm ps hp => ?_⟩
      rw [srt_unique pm ps]
      exact q p _ hp (rps_ints _)
/-! ### isinstance -/
inductive Cl where
  | int | bool | str | tuple | list
def Cl.name : Cl → String
  | .int => "int" | .bool => "bool" | .str => "str" | .tuple => "tuple" | .list => "list"
def Cl.py : Cl → Str
  | .int => "int" | .bool => "bool" | .str => "str" | .tuple => "tuple" | .list => "list"
def isI (c : Cl) (d : D) : Bool := match c, d with
  | .int, .int _ => true
  | .int, .bool _ => true
  | .bool, .bool _ => true
  | .str, .str _ => true
  | .tuple, .tuple _ => true
  | .list, .list _ => true
  | _, _ => false
def tyN : D → String
  | .none => "NoneType" | .bool _ => "bool" | .int _ => "int" | .str _ => "str" | .list _ => "list" | .tuple _ => "tuple" | .dict _ => "dict"
theorem rp_ty {K : PySem.W.Frag} {H : Hp} {v : V} {d : D} (h : Rp K H v d) : TyX K H v (.type (tyN d)) := by
  cases h with
  | non => exact .base .non
  | bl b => exact .base (.bl b)
  | int b => exact .base (.int b)
  | str b => exact .base (.str b)
  | lst h r => exact .base (.lst h)
  | tup h r => exact .base (.tup h)
  | dct h r => exact .base (.dK h)
theorem kit_isI (c : Cl) (d : D) : kitB (tyN d) c.name = some (isI c d) := by
  cases c <;> cases d <;> (simp only [tyN, Cl.name, isI]; decide +kernel)
theorem c_isi [ck : Cok0 Z X] : CallR X (.builtin "isinstance") (rIsi Z.K) := ck.K ▸ call_isi
theorem c_isiT [ck : Cok0 Z X] : CallR X (.builtin "isinstance") (rIsiT Z.K) := ck.K ▸ call_isiT
section
variable {Ex : XK} {Γ : List Slot} {a b c : Expr} {ma mb mc : M D} {pos : Pos}
theorem b_isi (k : Cl) {x y : Str} {p p2 : Pos} [ck : Cok0 Z X] (ha : PE X a (rdE Z Ex Γ ma)) (hm : Z.mg "isinstance" = none) (hk : Z.mg k.py = none) (hy : y = k.py := by rfl) (hx : x = "isinstance" := by rfl) (hg : Gl X x := by rfl) (hg2 : Gl X y := by rfl)
    (hs : starEach [a, .Name y p2] X.env = (false, eval a X.env) :: starEach [.Name y p2] X.env := by rfl) (hpl : (backTo pos (starEach [.Name y p2] X.env)).any (·.1) = false := by rfl) :
    PE X (.Call (.Name x p) [a, .Name y p2] [] pos) (rdB Z Ex Γ (M.bind ma fun d => M.pure (isI k d))) := by
  subst hx hy
  have hT : PE X (.Name k.py p2) (tC (.ty k.name)) := by
    cases k <;> exact pe_bltn hg2 (by rw [ck.mg]; exact hk) (by decide +kernel) rfl (by decide) (by decide)
  refine pe_imp (pe_callB (c_isi (Z := Z)) hg (by rw [ck.mg]; exact hm) (by decide +kernel) (pa_cons ha (pa_cons hT pa_nil) hs) (by decide) (by decide) hs hpl) fun σ H Q ⟨P, s, G, o, q⟩ => ?_
  refine stepE o q fun v d s1 G1 H1 g o1 r1 q1 => ?_
  exact ⟨v, _, _, _, _, rfl, .ty _, rp_ty (r1.mono o1.base.gh), kit_ty (kit_isI k d), Post.pure q1 o1⟩
/-- isinstance(x, (S, T)) -/
theorem b_isi2 (k k' : Cl) {x y y' : Str} {x1} {p p2 p3 p4 : Pos} [ck : Cok0 Z X] (ha : PE X a (rdE Z Ex Γ ma)) (hm : Z.mg "isinstance" = none) (hk : Z.mg k.py = none) (hk' : Z.mg k'.py = none) (hy : y = k.py := by rfl) (hy' : y' = k'.py := by rfl) (hx : x = "isinstance" := by rfl) (hg : Gl X x := by rfl) (hg2 : Gl X y := by rfl) (hg3 : Gl X y' := by rfl)
    (hs : starEach [a, .Tuple [.Name y p2, .Name y' p3] x1 p4] X.env = (false, eval a X.env) :: starEach [.Tuple [.Name y p2, .Name y' p3] x1 p4] X.env := by rfl) (hpl : (backTo pos (starEach [.Tuple [.Name y p2, .Name y' p3] x1 p4] X.env)).any (·.1) = false := by rfl)
    (hs2 : starEach [.Name y p2, .Name y' p3] X.env = (false, eval (.Name y p2) X.env) :: starEach [.Name y' p3] X.env := by rfl) :
    PE X (.Call (.Name x p) [a, .Tuple [.Name y p2, .Name y' p3] x1 p4] [] pos) (rdB Z Ex Γ (M.bind ma fun d => M.pure (isI k d || isI k' d))) := by
  subst hx hy hy'
  have hT : PE X (.Name k.py p2) (tC (.ty k.name)) := by
    cases k <;> exact pe_bltn hg2 (by rw [ck.mg]; exact hk) (by decide +kernel) rfl (by decide) (by decide)
  have hT' : PE X (.Name k'.py p3) (tC (.ty k'.name)) := by
    cases k' <;> exact pe_bltn hg3 (by rw [ck.mg]; exact hk') (by decide +kernel) rfl (by decide) (by decide)
  refine pe_imp (pe_callB (c_isiT (Z := Z)) hg (by rw [ck.mg]; exact hm) (by decide +kernel) (pa_cons ha (pa_cons (pe_tup (pa_cons hT (pa_cons hT' pa_nil) hs2)) pa_nil) hs) (by decide) (by decide) hs hpl) fun σ H Q ⟨P, s, G, o, q⟩ => ?_
  refine stepE o q fun v d s1 G1 H1 g o1 r1 q1 => ⟨by show 2 ≤ sizeLine; decide, fun tp htp => ?_⟩
  refine ⟨v, tp, _, _, _, _, rfl, upd_same, .cons (.ty _) (.cons (.ty _) .nil), rp_ty ((r1.mono o1.base.gh).mono (same_upd htp)), kitAny_cons (b := isI k d) (r := isI k d || isI k' d) (kit_ty (kit_isI k d)) (fun e => kitAny_cons (b := isI k' d) (kit_ty (kit_isI k' d)) (fun e' => by rw [e, e']; exact kitAny_nil) (fun e' => by rw [e, e']; rfl)) (fun e => by rw [e]; rfl), ?_⟩
  exact q1 _ _ (Same.refl _) (o1.leave (.beside o1.base.gh htp))
end
end
end Sim
end
section
set_option Elab.async false
set_option linter.all false
set_option maxRecDepth 100000
set_option maxHeartbeats 400000
namespace Sim
open PySem PySem.Spec PyProof.Rows L2
inductive Out (γ α : Type) where
  | nx (a : γ) | ret (d : D) | retL (l : List D) | brk (a : α) | cnt (a : α)
/-- what is wanted behind a block -/
def PostS {γ α : Type} (Z : Fx) (Ex : XK) (P : Par) (G : Hp) (Γm : γ → List Slot) (Γn : α → List Slot) (r : R (Out γ α × List D)) (Dn : Ends) : Prop :=
  r.post (fun o => match o.1 with
    | .nx a => ∀ σ' G' H', Same G G' → Ok Z P (Γm a) o.2 σ' G' H' → Dn.nx σ' H'
    | .brk a => ∀ σ' G' H', Same G G' → Ok Z P (Γn a) o.2 σ' G' H' → Dn.bk σ' H'
    | .cnt a => ∀ σ' G' H', Same G G' → Ok Z P (Γn a) o.2 σ' G' H' → Dn.ct σ' H'
    | .ret d => ∀ v G' H', Same G G' → Base Z P G' H' → ThrOk Z P o.2 G' H' → Rp Z.K G' v d → Dn.rt v H'
    | .retL l => ∀ p vs G' H', Same G G' → Base Z P G' H' → ThrOk Z P o.2 G' H' → H' p = none → Rps Z.K G' vs l → Dn.rt (.ref p) (upd H' p (.lst vs))) (ExP Z Ex P G)
def rdS {γ α : Type} (Z : Fx) (Ex : XK) (Γ : List Slot) (Γm : γ → List Slot) (Γn : α → List Slot) (m : M (Out γ α)) : TS := fun Dn σ H => ∃ P s G, P.Cl ∧ Ok Z P Γ s σ G H ∧ PostS Z Ex P G Γm Γn (m s) Dn
section
variable {γ α β : Type} {Z : Fx} {Ex : XK} {P : Par} {G G1 H : Hp} {Γ : List Slot} {s : List D} {σ : L2.St} {Γm : γ → List Slot} {Γn : α → List Slot}
theorem PostS.grow {r : R (Out γ α × List D)} {Dn : Ends} (h : PostS Z Ex P G Γm Γn r Dn) (g : Same G G1) : PostS Z Ex P G1 Γm Γn r Dn := by
  refine R.post_mono h (fun o q => ?_) fun _ q => q.mono g
  obtain ⟨o, s'⟩ := o
  cases o with
  | nx a => exact fun σ' G' H' g' => q σ' G' H' (g.trans g')
  | brk a => exact fun σ' G' H' g' => q σ' G' H' (g.trans g')
  | cnt a => exact fun σ' G' H' g' => q σ' G' H' (g.trans g')
  | ret d => exact fun v G' H' g' => q v G' H' (g.trans g')
  | retL d => exact fun p vs G' H' g' => q p vs G' H' (g.trans g')
/-- an expression ahead of a block -/
theorem PostS.bindE {m : M β} {k : β → M (Out γ α)} {Dn : Ends} (h : PostS Z Ex P G Γm Γn (M.bind m k s) Dn) : Post Z Ex P Γ σ G (m s) fun a s' G' _ => PostS Z Ex P G' Γm Γn (k a s') Dn := by
  unfold M.bind at h
  cases e : m s with
  | ok r =>
    rw [e] at h
    exact fun G' H' g o => PostS.grow h g
  | exn x =>
    rw [e] at h
    exact h
  | stuck =>
    rw [e] at h
    exact h
theorem sE {m : M D} {k : D → M (Out γ α)} {Dn : Ends} {C : V → Hp → Prop} (o : Ok Z P Γ s σ G H) (h : PostS Z Ex P G Γm Γn (M.bind m k s) Dn)
    (c : ∀ v d s1 G1 H1, Same G G1 → Ok Z P Γ s1 σ G1 H1 → Rp Z.K G1 v d → PostS Z Ex P G1 Γm Γn (k d s1) Dn → C v H1) : rdE Z Ex Γ m σ H C :=
  ⟨P, s, G, o, (PostS.bindE h).mono fun d s1 G1 H1 g o1 q v r => c v d s1 G1 H1 g o1 r q⟩
theorem sT {m : M Bool} {k : Bool → M (Out γ α)} {Dn : Ends} {C : Bool → Hp → Prop} (o : Ok Z P Γ s σ G H) (h : PostS Z Ex P G Γm Γn (M.bind m k s) Dn)
    (c : ∀ b s1 G1 H1, Same G G1 → Ok Z P Γ s1 σ G1 H1 → PostS Z Ex P G1 Γm Γn (k b s1) Dn → C b H1) : rdT Z Ex Γ m σ H C :=
  ⟨P, s, G, o, (PostS.bindE h).mono fun d s1 G1 H1 g o1 q => c d s1 G1 H1 g o1 q⟩
theorem sA {m : M (List D)} {k : List D → M (Out γ α)} {Dn : Ends} {C : List V → Hp → Prop} (o : Ok Z P Γ s σ G H) (h : PostS Z Ex P G Γm Γn (M.bind m k s) Dn)
    (c : ∀ v d s1 G1 H1, Same G G1 → Ok Z P Γ s1 σ G1 H1 → Rps Z.K G1 v d → PostS Z Ex P G1 Γm Γn (k d s1) Dn → C v H1) : rdA Z Ex Γ m σ H C :=
  ⟨P, s, G, o, (PostS.bindE h).mono fun d s1 G1 H1 g o1 q v r => c v d s1 G1 H1 g o1 r q⟩
theorem sL {m : M (List D)} {k : List D → M (Out γ α)} {Dn : Ends} {C : V → Hp → Prop} (o : Ok Z P Γ s σ G H) (h : PostS Z Ex P G Γm Γn (M.bind m k s) Dn)
    (c : ∀ p vs l s1 G1 H1, Same G G1 → Ok Z P Γ s1 σ G1 H1 → H1 p = none → Rps Z.K G1 vs l → PostS Z Ex P G1 Γm Γn (k l s1) Dn → C (.ref p) (upd H1 p (.lst vs))) : rdL Z Ex Γ m σ H C :=
  ⟨P, s, G, o, (PostS.bindE h).mono fun l s1 G1 H1 g o1 q p vs hp r => c p vs l s1 G1 H1 g o1 hp r q⟩
theorem PostS.opt {o : Option β} {k : β → M (Out γ α)} {Dn : Ends} (h : PostS Z Ex P G Γm Γn (M.bind (M.opt o) k s) Dn) : ∃ a, o = some a ∧ PostS Z Ex P G Γm Γn (k a s) Dn := by
  cases o with
  | some a => exact ⟨a, rfl, h⟩
  | none => exact h.elim

/-! ### slots stored -/
theorem SlotsOk.split : ∀ {Γ : List Slot} {σ : L2.St} {fps : List Addr} {i : Nat} {g : Slot}, SlotsOk Z P G H Γ σ fps → Γ[i]? = some g → ∃ v fp A B, σ[i]? = some v ∧ SlotOk Z P G H g v fp ∧ fps = A ++ fp ++ B ∧
    (∀ G' H', Same G G' → (∀ q ∈ A ++ B, ∀ o, H q = some o → G' q = none ∧ H' q = some o) → ∀ g' v' fp', SlotOk Z P G' H' g' v' fp' → SlotsOk Z P G' H' (Γ.set i g') (σ.set i v') (A ++ fp' ++ B))
  | _, _, _, _, _, .nil, h => by simp at h
  | g0 :: Γ, v0 :: σ, _, 0, _, @SlotsOk.cons _ _ _ _ _ _ _ _ fp fps a r, h => by
    simp at h
    subst h
    refine ⟨v0, fp, [], fps, rfl, a, by simp, fun G' H' m k g' v' fp' a' => ?_⟩
    exact .cons a' (r.mono m fun q hq => k q (by simpa using hq))
  | g0 :: Γ, v0 :: σ, _, i + 1, _, @SlotsOk.cons _ _ _ _ _ _ _ _ fp0 fps0 a r, h => by
    obtain ⟨v, fp, A, B, h1, h2, h3, h4⟩ := SlotsOk.split (i := i) r (by simpa using h)
    refine ⟨v, fp, fp0 ++ A, B, by simpa using h1, h2, by rw [h3]; simp, fun G' H' m k g' v' fp' a' => ?_⟩
    have := SlotsOk.cons (a.mono m fun q hq => k q (by simp [hq])) (h4 G' H' m (fun q hq => k q (by
      rcases List.mem_append.mp hq with h | h <;> simp [h])) g' v' fp' a')
    simpa using this
theorem nodup_drop {T A B C : List Addr} (h : (T ++ (A ++ B ++ C)).Nodup) : (T ++ (A ++ [] ++ C)).Nodup := by
  refine List.Sublist.nodup ?_ h
  refine List.Sublist.append (List.Sublist.refl T) ?_
  refine List.Sublist.append ?_ (List.Sublist.refl C)
  exact List.Sublist.append (List.Sublist.refl A) (List.nil_sublist B)
theorem st_set_self {σ : L2.St} {i : Nat} {v : Option V} (h : σ[i]? = some v) : σ.set i v = σ := by
  apply List.ext_getElem?
  intro j
  rw [List.getElem?_set]
  split
  · rename_i e
    subst e
    split
    · exact h.symm
    · rename_i hl
      rw [List.getElem?_eq_none (by omega)] at h
      cases h
  · rfl
/-- a slot takes what is read-only -/
theorem Ok.set (k : Ok Z P Γ s σ G H) {i : Nat} {g : Slot} (hi : Γ[i]? = some g) {v : V} {d : D} (r : Rp Z.K G v d) : Ok Z P (Γ.set i (.pur d)) s (σ.set i (some v)) G H := by
  obtain ⟨fps, h1, h2⟩ := k.sl
  obtain ⟨v0, fp, A, B, _, _, rfl, h4⟩ := h1.split hi
  refine ⟨k.base, k.thr, A ++ [] ++ B, h4 G H (Same.refl _) (fun q hq o e => ⟨?_, e⟩) _ _ _ (.pur r), nodup_drop h2⟩
  obtain ⟨vs, e1, e2, _⟩ := h1.at q (by rcases List.mem_append.mp hq with h | h <;> simp [h])
  exact e2
/-- a slot is forgotten -/
theorem Ok.drop (k : Ok Z P Γ s σ G H) {i : Nat} {g : Slot} (hi : Γ[i]? = some g) : Ok Z P (Γ.set i .any) s σ G H := by
  obtain ⟨fps, h1, h2⟩ := k.sl
  obtain ⟨v0, fp, A, B, e0, _, rfl, h4⟩ := h1.split hi
  have q := h4 G H (Same.refl _) (fun q hq o e => ⟨(by
    obtain ⟨vs, e1, e2, _⟩ := h1.at q (by rcases List.mem_append.mp hq with h | h <;> simp [h])
    exact e2), e⟩) .any v0 [] .any
  rw [st_set_self e0] at q
  exact ⟨k.base, k.thr, A ++ [] ++ B, q, nodup_drop h2⟩
/-- any store of a slot -/
theorem Ok.setAny (k : Ok Z P Γ s σ G H) {i : Nat} {g : Slot} (hi : Γ[i]? = some g) {v : Option V} : Ok Z P (Γ.set i .any) s (σ.set i v) G H := by
  obtain ⟨fps, h1, h2⟩ := k.sl
  obtain ⟨v0, fp, A, B, e0, _, rfl, h4⟩ := h1.split hi
  exact ⟨k.base, k.thr, A ++ [] ++ B, h4 G H (Same.refl _) (fun q hq o e => ⟨(by
    obtain ⟨vs, e1, e2, _⟩ := h1.at q (by rcases List.mem_append.mp hq with h | h <;> simp [h])
    exact e2), e⟩) .any v [] .any, nodup_drop h2⟩
theorem Ok.notin (k : Ok Z P Γ s σ G H) {p : Addr} (hp : H p = none) {fps : List Addr} (h1 : SlotsOk Z P G H Γ σ fps) : p ∉ P.thr.toList ++ fps := fun h => by
  rcases List.mem_append.mp h with h | h
  · have e : P.thr = some p := by simpa using h
    obtain ⟨_, vs, e', _⟩ := k.thr p e
    rw [hp] at e'; cases e'
  · obtain ⟨vs, e', _⟩ := h1.at p h
    rw [hp] at e'; cases e'
theorem nodup_ins {T A B C : List Addr} {p : Addr} (h : (T ++ (A ++ B ++ C)).Nodup) (hp : p ∉ T ++ (A ++ B ++ C)) : (T ++ (A ++ [p] ++ C)).Nodup := by
  have h1 := nodup_drop h
  have h2 : p ∉ T ++ (A ++ [] ++ C) := fun z => hp (by
    simp only [List.mem_append] at z ⊢
    rcases z with z | (z | z) | z
    · exact .inl z
    · exact .inr (.inl (.inl z))
    · cases z
    · exact .inr (.inr z))
  have h3 : (p :: (T ++ (A ++ [] ++ C))).Nodup := List.nodup_cons.mpr ⟨h2, h1⟩
  refine (List.Perm.nodup_iff ?_).mpr h3
  simp only [List.append_nil, List.append_assoc, List.cons_append, List.nil_append]
  rw [← List.append_assoc, ← List.append_assoc]
  exact List.perm_middle
/-- a slot takes a new list -/
theorem Ok.setL (k : Ok Z P Γ s σ G H) {i : Nat} {g : Slot} (hi : Γ[i]? = some g) {p : Addr} {vs : List V} {l : List D} (hp : H p = none) (r : Rps Z.K G vs l) : Ok Z P (Γ.set i (.own l)) s (σ.set i (some (.ref p))) G (upd H p (.lst vs)) := by
  have k' : Ok Z P Γ s σ G (upd H p (.lst vs)) := k.leave (.beside k.base.gh hp)
  obtain ⟨fps, h1, h2⟩ := k.sl
  have hn := k.notin hp h1
  obtain ⟨v0, fp, A, B, _, _, rfl, h4⟩ := h1.split hi
  refine ⟨k'.base, k'.thr, A ++ [p] ++ B, h4 G _ (Same.refl _) (fun q hq o e => ⟨?_, ?_⟩) _ _ _ (.own (k.base.gh.free hp) (k.base.new hp) upd_same r), nodup_ins h2 hn⟩
  · obtain ⟨ws, e1, e2, _⟩ := h1.at q (by rcases List.mem_append.mp hq with h | h <;> simp [h])
    exact e2
  · rw [upd_ne (ne_of_none e hp)]; exact e
theorem tabs_upd {T : List (Addr × Str)} {p : Addr} {o o' : HO} (t : LamX.Tabs T H) (hp : H p = some o) (n : ∀ ps, o ≠ .tbl ps) (n' : ∀ c q, o ≠ LamX.CodeO c q) : LamX.Tabs T (upd H p o') := fun x hx => by
  obtain ⟨ps, h1, h2, h3⟩ := t x hx
  refine ⟨ps, ?_, h2, fun pos cv hc => ?_⟩
  · rw [upd_ne]
    · exact h1
    · intro e; rw [e, hp] at h1; exact n ps (Option.some.inj h1)
  · obtain ⟨c, e1, e2⟩ := h3 pos cv hc
    refine ⟨c, e1, ?_⟩
    rw [upd_ne]
    · exact e2
    · intro e; rw [e, hp] at e2; exact n' _ _ (Option.some.inj e2)
theorem lst_ne_code {vs : List V} : ∀ c q, HO.lst vs ≠ LamX.CodeO c q := fun c q h => by cases h
/-- what is ours alone is written -/
theorem Base.write (k : Base Z P G H) {p : Addr} {vs vs' : List V} (hg : G p = none) (hH : H p = some (.lst vs)) (he : P.thr = some p ∨ P.No p) : Base Z P G (upd H p (.lst vs')) := by
  refine ⟨⟨k.lv.g, ⟨fun b o e => ?_, k.gh.nt⟩, k.lv.fr, fun b o e n => ?_, fun t => tabs_upd (k.lv.tb t) hH lst_ne_tbl lst_ne_code⟩, fun b hb => ?_, tabs_upd k.tabs hH lst_ne_tbl lst_ne_code⟩
  · have : b ≠ p := fun z => by rw [z, hg] at e; cases e
    rw [upd_ne this]; exact k.gh _ _ e
  · by_cases hb : b = p
    · subst hb
      rcases he with he | he
      · exact ⟨_, upd_same, nt_lst, fun z => absurd he z⟩
      · exact absurd n (he o e)
    · obtain ⟨o', h1, h2⟩ := k.lv.st b o e n
      exact ⟨o', by rw [upd_ne hb]; exact h1, h2⟩
  · by_cases e : b = p
    · rw [e, upd_same]; exact ⟨_, rfl, nt_lst⟩
    · rw [upd_ne e]; exact k.old b hb
/-- the list in a slot is changed -/
theorem Ok.changeE (k : Ok Z P Γ s σ G H) {i : Nat} {l : List D} (hi : Γ[i]? = some (.own l)) (he : ∀ p, ¬ P.B p → σ[i]? = some (some (.ref p)) → P.No p) : ∃ p vs, σ[i]? = some (some (.ref p)) ∧ H p = some (.lst vs) ∧ Rps Z.K G vs l ∧
    ∀ vs' l', Rps Z.K G vs' l' → Ok Z P (Γ.set i (.own l')) s σ G (upd H p (.lst vs')) := by
  obtain ⟨fps, h1, h2⟩ := k.sl
  obtain ⟨v0, fp, A, B, e0, a, rfl, h4⟩ := h1.split hi
  cases a with
  | @own p vs l a b c d =>
    refine ⟨p, vs, e0, c, d, fun vs' l' r => ?_⟩
    have hpT : P.thr ≠ some p := fun e => by
      rw [e] at h2
      simp at h2
    have hpq : ∀ q ∈ A ++ B, q ≠ p := fun q hq e => by
      subst e
      have h3 := (List.nodup_append.mp h2).2.1
      simp only [List.append_assoc, List.cons_append, List.nil_append] at h3
      have h5 := (List.Perm.nodup_iff (List.perm_middle (a := q) (l₁ := A) (l₂ := B))).mp h3
      exact (List.nodup_cons.mp h5).1 (by simpa using hq)
    have he := he p b e0
    refine ⟨k.base.write a c (.inr he), fun q hq => ?_, A ++ [p] ++ B, ?_, h2⟩
    · obtain ⟨g1, ws, g2, g3⟩ := k.thr q hq
      refine ⟨g1, ws, ?_, g3⟩
      rw [upd_ne]
      · exact g2
      · intro e; rw [e] at hq; exact hpT hq
    · have := h4 G (upd H p (.lst vs')) (Same.refl _) (fun q hq o e => ⟨(by
        obtain ⟨ws, e1, e2, _⟩ := h1.at q (by rcases List.mem_append.mp hq with h | h <;> simp [h])
        exact e2), by rw [upd_ne (hpq q hq)]; exact e⟩) (.own l') _ [p] (.own a b upd_same r)
      rw [st_set_self e0] at this
      exact this
theorem Ok.change (k : Ok Z P Γ s σ G H) (hB : P.Cl) {i : Nat} {l : List D} (hi : Γ[i]? = some (.own l)) : ∃ p vs, σ[i]? = some (some (.ref p)) ∧ H p = some (.lst vs) ∧ Rps Z.K G vs l ∧
    ∀ vs' l', Rps Z.K G vs' l' → Ok Z P (Γ.set i (.own l')) s σ G (upd H p (.lst vs')) := k.changeE hi fun p b _ => hB.no b
/-- the list in a slot is read-only from now on -/
theorem Ok.freeze (k : Ok Z P Γ s σ G H) (hB : P.Cl) {i : Nat} {l : List D} (hi : Γ[i]? = some (.own l)) : ∃ G', Same G G' ∧ Ok Z P (Γ.set i (.pur (.list l))) s σ G' H := by
  obtain ⟨fps, h1, h2⟩ := k.sl
  obtain ⟨v0, fp, A, B, e0, a, rfl, h4⟩ := h1.split hi
  cases a with
  | @own p vs l a b c d =>
    have hpT : P.thr ≠ some p := fun e => by
      rw [e] at h2
      simp at h2
    have hpq : ∀ q ∈ A ++ B, q ≠ p := fun q hq e => by
      subst e
      have h3 := (List.nodup_append.mp h2).2.1
      simp only [List.append_assoc, List.cons_append, List.nil_append] at h3
      have h5 := (List.Perm.nodup_iff (List.perm_middle (a := q) (l₁ := A) (l₂ := B))).mp h3
      exact (List.nodup_cons.mp h5).1 (by simpa using hq)
    have he : P.No p := hB.no b
    have g : Same G (upd G p (.lst vs)) := same_upd a
    refine ⟨upd G p (.lst vs), g, ⟨⟨k.base.lv.g.trans g, ⟨fun b o e => ?_, fun b o e => ?_⟩, fun b hb => ?_, k.base.lv.st, k.base.lv.tb⟩, k.base.old, k.base.tabs⟩, fun q hq => ?_, A ++ [] ++ B, ?_, nodup_drop h2⟩
    · by_cases hb : b = p
      · rw [hb, upd_same] at e; rw [hb]; cases e; exact c
      · rw [upd_ne hb] at e; exact k.base.gh _ _ e
    · by_cases hb : b = p
      · rw [hb, upd_same] at e; cases e; exact nt_lst
      · rw [upd_ne hb] at e; exact k.base.gh.nt _ _ e
    · by_cases e : b = p
      · rw [e]; exact .inr he
      · rw [upd_ne e] at hb; exact k.base.lv.fr b hb
    · obtain ⟨g1, ws, g2, g3⟩ := k.thr q hq
      refine ⟨?_, ws, g2, g3.mono g⟩
      rw [upd_ne]
      · exact g1
      · intro e; rw [e] at hq; exact hpT hq
    · have := h4 (upd G p (.lst vs)) H g (fun q hq o e => ⟨(by
        obtain ⟨ws, e1, e2, _⟩ := h1.at q (by rcases List.mem_append.mp hq with h | h <;> simp [h])
        rw [upd_ne (hpq q hq)]; exact e2), e⟩) (.pur (.list l)) (some (.ref p)) [] (.pur (.lst upd_same (d.mono g)))
      rw [st_set_self e0] at this
      exact this
/-- an own list read -/
theorem Ok.own (k : Ok Z P Γ s σ G H) {i : Nat} {l : List D} (hi : Γ[i]? = some (.own l)) : ∃ p vs, σ[i]? = some (some (.ref p)) ∧ H p = some (.lst vs) ∧ Rps Z.K G vs l := by
  obtain ⟨fps, h1, h2⟩ := k.sl
  obtain ⟨v, fp, e, q, _⟩ := h1.get hi
  cases q with
  | own a b c d => exact ⟨_, _, e, c, d⟩
/-- the threaded list -/
theorem Ok.thread (k : Ok Z P Γ s σ G H) {i : Nat} (hi : Γ[i]? = some .thr) : ∃ p vs, σ[i]? = some (some (.ref p)) ∧ P.thr = some p ∧ G p = none ∧ H p = some (.lst vs) ∧ Rps Z.K G vs s ∧
    ∀ vs' s', Rps Z.K G vs' s' → Ok Z P Γ s' σ G (upd H p (.lst vs')) := by
  obtain ⟨fps, h1, h2⟩ := k.sl
  obtain ⟨v, fp, e, q, _⟩ := h1.get hi
  cases q with
  | @thr p e1 =>
    obtain ⟨g1, vs, g2, g3⟩ := k.thr p e1
    refine ⟨p, vs, e, e1, g1, g2, g3, fun vs' s' r => ⟨k.base.write g1 g2 (.inl e1), fun q hq => ?_, fps, ?_, h2⟩⟩
    · rw [e1] at hq
      cases hq
      exact ⟨g1, vs', upd_same, r⟩
    · refine h1.mono (Same.refl _) fun q hq o e => ?_
      obtain ⟨ws, e1', e2, _⟩ := h1.at q hq
      refine ⟨e2, ?_⟩
      rw [upd_ne]
      · exact e
      · intro z
        subst z
        rw [e1] at h2
        simp only [Option.toList_some, List.cons_append, List.nil_append] at h2
        exact (List.nodup_cons.mp h2).1 hq
end
end Sim
end
section
set_option Elab.async false
set_option linter.all false
set_option maxRecDepth 100000
set_option maxHeartbeats 400000
namespace Sim
open PySem PySem.Spec PyProof.Rows L2
theorem pt_any {ι : Type} {X : Cx} {e : Expr} {t : ι → TT} (h : ∀ i, PT X e (t i)) : PT X e (fun σ H Q => ∃ i, t i σ H Q) := ⟨fun pins s σ H Q I ⟨i, q⟩ => (h i).run pins s σ H Q I q⟩
/-- a block, then another one -/
def andThen {γ δ α : Type} (m : M (Out γ α)) (k : γ → M (Out δ α)) : M (Out δ α) := M.bind m fun o => match o with
  | .nx x => k x
  | .ret d => M.pure (.ret d)
  | .retL l => M.pure (.retL l)
  | .brk x => M.pure (.brk x)
  | .cnt x => M.pure (.cnt x)
/-- a block that is always left -/
def exits {γ α : Type} (m : M (Out Empty α)) : M (Out γ α) := andThen m fun x => nomatch x
section
variable {γ δ α : Type} (k : γ → M (Out δ α))
@[simp] theorem andThen_nx (x : γ) : andThen (M.pure (.nx x)) k = k x := rfl
@[simp] theorem andThen_ret (d : D) : andThen (M.pure (.ret d)) k = M.pure (.ret d) := rfl
@[simp] theorem andThen_retL (d : List D) : andThen (M.pure (.retL d)) k = M.pure (.retL d) := rfl
@[simp] theorem andThen_brk (d : α) : andThen (M.pure (.brk d)) k = M.pure (.brk d) := rfl
@[simp] theorem andThen_cnt (d : α) : andThen (M.pure (.cnt d)) k = M.pure (.cnt d) := rfl
@[simp] theorem andThen_raise (x : Exn) : andThen (M.raise x) k = M.raise x := rfl
@[simp] theorem andThen_stuck : andThen (M.stuck) k = M.stuck := rfl
@[simp] theorem andThen_bind {β : Type} (m : M β) (f : β → M (Out γ α)) : andThen (M.bind m f) k = M.bind m fun x => andThen (f x) k := M.bind_assoc _ _ _
@[simp] theorem exits_ret (d : D) : (exits (M.pure (.ret d)) : M (Out γ α)) = M.pure (.ret d) := rfl
@[simp] theorem exits_retL (d : List D) : (exits (M.pure (.retL d)) : M (Out γ α)) = M.pure (.retL d) := rfl
@[simp] theorem exits_brk (d : α) : (exits (M.pure (.brk d)) : M (Out γ α)) = M.pure (.brk d) := rfl
@[simp] theorem exits_cnt (d : α) : (exits (M.pure (.cnt d)) : M (Out γ α)) = M.pure (.cnt d) := rfl
@[simp] theorem exits_raise (x : Exn) : (exits (M.raise x) : M (Out γ α)) = M.raise x := rfl
@[simp] theorem exits_stuck : (exits M.stuck : M (Out γ α)) = M.stuck := rfl
@[simp] theorem exits_bind {β : Type} (m : M β) (f : β → M (Out Empty α)) : (exits (M.bind m f) : M (Out γ α)) = M.bind m fun x => exits (f x) := M.bind_assoc _ _ _
end
def mFor {α β : Type} (f : D → α → M (Out α α)) : List D → α → M (Out α β)
  | [], a => M.pure (.nx a)
  | d :: r, a => M.bind (f d a) fun o => match o with
    | .nx a' => mFor f r a'
    | .cnt a' => mFor f r a'
    | .brk a' => M.pure (.nx a')
    | .ret d => M.pure (.ret d)
    | .retL l => M.pure (.retL l)
def mWhile {α β : Type} (c : α → M Bool) (f : α → M (Out α α)) : Nat → α → M (Out α β)
  | 0, _ => M.stuck
  | F + 1, a => M.bind (c a) fun t => if t then M.bind (f a) fun o => match o with
      | .nx a' => mWhile c f F a'
      | .cnt a' => mWhile c f F a'
      | .brk a' => M.pure (.nx a')
      | .ret d => M.pure (.ret d)
      | .retL l => M.pure (.retL l)
    else M.pure (.nx a)
/-- weaker slots -/
inductive Weak : List Slot → List Slot → Prop
  | nil : Weak [] []
  | same {g : Slot} {Γ Γ' : List Slot} : Weak Γ Γ' → Weak (g :: Γ) (g :: Γ')
  | any {g : Slot} {Γ Γ' : List Slot} : Weak Γ Γ' → Weak (g :: Γ) (.any :: Γ')
theorem Weak.refl : ∀ Γ : List Slot, Weak Γ Γ
  | [] => .nil
  | _ :: r => .same (Weak.refl r)
section
variable {Z : Fx} {Ex : XK} {P : Par} {G H : Hp} {Γ Γ' : List Slot} {s : List D} {σ : L2.St}
theorem SlotsOk.weak : ∀ {Γ Γ' : List Slot} {σ : L2.St} {fps : List Addr}, SlotsOk Z P G H Γ σ fps → Weak Γ Γ' → ∃ fps', SlotsOk Z P G H Γ' σ fps' ∧ fps'.Sublist fps
  | _, _, _, _, .nil, .nil => ⟨[], .nil, .slnil⟩
  | _, _, _, _, .cons a r, .same w => by
    obtain ⟨f, h1, h2⟩ := SlotsOk.weak r w
    exact ⟨_, .cons a h1, (List.Sublist.refl _).append h2⟩
  | _, _, _, _, .cons a r, .any w => by
    obtain ⟨f, h1, h2⟩ := SlotsOk.weak r w
    exact ⟨_, .cons .any h1, by simpa using h2.trans (List.sublist_append_right _ _)⟩
theorem Ok.weak (k : Ok Z P Γ s σ G H) (w : Weak Γ Γ') : Ok Z P Γ' s σ G H := by
  obtain ⟨fps, h1, h2⟩ := k.sl
  obtain ⟨f, h3, h4⟩ := h1.weak w
  exact ⟨k.base, k.thr, f, h3, List.Sublist.nodup ((List.Sublist.refl _).append h4) h2⟩
end
section
variable {γ δ α : Type} {Z : Fx} {Ex : XK} {X : Cx} {Γ : List Slot} {Γm : γ → List Slot} {Γn : α → List Slot} {rest : List Stmt} {e : Expr} {pos : Pos}
theorem s_nil {a : γ} (w : Weak Γ (Γm a)) : PSs X [] (rdS Z Ex Γ Γm Γn (M.pure (.nx a))) :=
  pss_imp pss_nil fun Dn σ H ⟨P, s, G, hB, o, q⟩ => q σ G H (Same.refl _) (o.weak w)
/-- x = e -/
theorem s_set (i : Nat) {x : Str} {me : M D} {k : D → M (Out γ α)} {p : Pos} [ck : Cok0 Z X] (he : PE X e (rdE Z Ex Γ me)) (hr : ∀ d, PSs X rest (rdS Z Ex (Γ.set i (.pur d)) Γm Γn (k d)))
    (hi : X.N[i]? = some x := by rfl) (hΓ : Γ[i]?.isSome = true := by rfl) (hx : Loc X.env.scope x := by first | exact Or.inl rfl | exact Or.inr rfl) (hs : swapsWith e (some (.Name x p)) pos.line X.env = pure false := by rfl)
    (hf : X.fn x = true ∨ X.env.scope.names.lookup x = some .local := by first | exact .inl rfl | exact .inr rfl) :
    PSs X (.Assign [.Name x p] e pos :: rest) (rdS Z Ex Γ Γm Γn (M.bind me k)) :=
  pss_imp (pss_cons (ps_set ck.nd hi hx he hs hf) (pss_any hr)) fun Dn σ H ⟨P, s, G, hB, o, q⟩ => sE o q fun v d s1 G1 H1 g o1 r q1 => by
    obtain ⟨g0, hg⟩ := Option.isSome_iff_exists.mp hΓ
    exact ⟨d, P, s1, G1, hB, o1.set hg r, q1⟩
/-- x = a new list -/
theorem s_setL (i : Nat) {x : Str} {me : M (List D)} {k : List D → M (Out γ α)} {p : Pos} [ck : Cok0 Z X] (he : PE X e (rdL Z Ex Γ me)) (hr : ∀ d, PSs X rest (rdS Z Ex (Γ.set i (.own d)) Γm Γn (k d)))
    (hi : X.N[i]? = some x := by rfl) (hΓ : Γ[i]?.isSome = true := by rfl) (hx : Loc X.env.scope x := by first | exact Or.inl rfl | exact Or.inr rfl) (hs : swapsWith e (some (.Name x p)) pos.line X.env = pure false := by rfl)
    (hf : X.fn x = true ∨ X.env.scope.names.lookup x = some .local := by first | exact .inl rfl | exact .inr rfl) :
    PSs X (.Assign [.Name x p] e pos :: rest) (rdS Z Ex Γ Γm Γn (M.bind me k)) :=
  pss_imp (pss_cons (ps_set ck.nd hi hx he hs hf) (pss_any hr)) fun Dn σ H ⟨P, s, G, hB, o, q⟩ => sL (C := fun v H1 => ∃ d, rdS Z Ex (Γ.set i (.own d)) Γm Γn (k d) Dn (σ.set i (some v)) H1) o q fun p vs l s1 G1 H1 g o1 hp r q1 => by
    obtain ⟨g0, hg⟩ := Option.isSome_iff_exists.mp hΓ
    exact ⟨l, P, s1, G1, hB, o1.setL hg hp r, q1⟩
/-- an own list is read-only from here on -/
theorem s_freeze (i : Nat) {l : List D} {m : M (Out γ α)} {sts : List Stmt} (hg : Γ[i]? = some (.own l)) (hr : PSs X sts (rdS Z Ex (Γ.set i (.pur (.list l))) Γm Γn m)) : PSs X sts (rdS Z Ex Γ Γm Γn m) :=
  pss_imp hr fun Dn σ H ⟨P, s, G, hB, o, q⟩ => by
    obtain ⟨G', g, o'⟩ := o.freeze hB hg
    exact ⟨P, s, G', hB, o', q.grow g⟩
/-- f(..) for what it does -/
theorem s_expr {me : M D} {k : M (Out γ α)} (he : PE X e (rdE Z Ex Γ me)) (hr : PSs X rest (rdS Z Ex Γ Γm Γn k)) (hs : swapsWith e none pos.line X.env = pure false := by rfl) :
    PSs X (.Expr e pos :: rest) (rdS Z Ex Γ Γm Γn (M.bind me fun _ => k)) :=
  pss_imp (pss_cons (ps_expr he hs) hr) fun Dn σ H ⟨P, s, G, hB, o, q⟩ => sE o q fun v d s1 G1 H1 g o1 r q1 => ⟨P, s1, G1, hB, o1, q1⟩
theorem s_ret {me : M D} (he : PE X e (rdE Z Ex Γ me)) : PSs X (.Return (some e) pos :: rest) (rdS Z Ex Γ Γm Γn (M.bind me fun d => M.pure (.ret d))) :=
  pss_imp (pss_cons (ps_ret he) (pss_never (sts := rest))) fun Dn σ H ⟨P, s, G, hB, o, q⟩ => sE o q fun v d s1 G1 H1 g o1 r q1 => q1 v G1 H1 (Same.refl _) o1.base o1.thr r
theorem s_retL {me : M (List D)} (he : PE X e (rdL Z Ex Γ me)) : PSs X (.Return (some e) pos :: rest) (rdS Z Ex Γ Γm Γn (M.bind me fun d => M.pure (.retL d))) :=
  pss_imp (pss_cons (ps_ret he) (pss_never (sts := rest))) fun Dn σ H ⟨P, s, G, hB, o, q⟩ => sL (C := Dn.rt) o q fun p vs l s1 G1 H1 g o1 hp r q1 => q1 p vs G1 H1 (Same.refl _) o1.base o1.thr hp r
theorem s_retN : PSs X (.Return none pos :: rest) (rdS Z Ex Γ Γm Γn (M.pure (.ret .none))) :=
  pss_imp (pss_cons ps_retN (pss_never (sts := rest))) fun Dn σ H ⟨P, s, G, hB, o, q⟩ => q .non G H (Same.refl _) o.base o.thr .non
theorem s_cnt {a : α} (w : Weak Γ (Γn a)) : PSs X (.Continue pos :: rest) (rdS Z Ex Γ Γm Γn (M.pure (.cnt a))) :=
  pss_imp (pss_cons ps_continue (pss_never (sts := rest))) fun Dn σ H ⟨P, s, G, hB, o, q⟩ => q σ G H (Same.refl _) (o.weak w)
theorem s_brk {a : α} (w : Weak Γ (Γn a)) : PSs X (.Break pos :: rest) (rdS Z Ex Γ Γm Γn (M.pure (.brk a))) :=
  pss_imp (pss_cons ps_break (pss_never (sts := rest))) fun Dn σ H ⟨P, s, G, hB, o, q⟩ => q σ G H (Same.refl _) (o.weak w)
/-- the run of a block, then of the rest -/
theorem PostS.thn {P : Par} {G : Hp} {s : List D} {Γk : δ → List Slot} {m : M (Out δ α)} {k : δ → M (Out γ α)} {Dn : Ends} {nx : L2.St → Hp → Prop} (h : PostS Z Ex P G Γm Γn (andThen m k s) Dn)
    (c : ∀ x s' σ' G' H', Same G G' → Ok Z P (Γk x) s' σ' G' H' → PostS Z Ex P G' Γm Γn (k x s') Dn → nx σ' H') : PostS Z Ex P G Γk Γn (m s) { Dn with nx := nx } := by
  unfold andThen M.bind at h
  cases e : m s with
  | ok r =>
    rw [e] at h
    obtain ⟨o, s'⟩ := r
    cases o with
    | nx x => exact fun σ' G' H' g o => c x s' σ' G' H' g o (PostS.grow h g)
    | ret d => exact h
    | retL d => exact h
    | brk d => exact h
    | cnt d => exact h
  | exn x =>
    rw [e] at h
    exact h
  | stuck =>
    rw [e] at h
    exact h
theorem s_if {c : Expr} {a b : List Stmt} {mc : M Bool} {Γk : δ → List Slot} {ma mb : M (Out δ α)} {k : δ → M (Out γ α)} (hc : PT X c (rdT Z Ex Γ mc)) (ha : PSs X a (rdS Z Ex Γ Γk Γn ma)) (hb : PSs X b (rdS Z Ex Γ Γk Γn mb)) (hr : ∀ x, PSs X rest (rdS Z Ex (Γk x) Γm Γn (k x))) :
    PSs X (.If c a b pos :: rest) (rdS Z Ex Γ Γm Γn (M.bind mc fun t => andThen (if t then ma else mb) k)) :=
  pss_imp (pss_cons (ps_if hc ha hb) (pss_any hr)) fun Dn σ H ⟨P, s, G, hB, o, q⟩ => sT o q fun t s1 G1 H1 g o1 q1 => by
    cases t with
    | true => exact iteT ⟨P, s1, G1, hB, o1, q1.thn fun x s' σ' G' H' g' o' q' => ⟨x, P, s', G', hB, o', q'⟩⟩
    | false => exact iteF ⟨P, s1, G1, hB, o1, q1.thn fun x s' σ' G' H' g' o' q' => ⟨x, P, s', G', hB, o', q'⟩⟩
theorem s_ifx {c : Expr} {a : List Stmt} {mc : M Bool} {Γk : Empty → List Slot} {ma : M (Out Empty α)} {mr : M (Out γ α)} (hc : PT X c (rdT Z Ex Γ mc)) (ha : PSs X a (rdS Z Ex Γ Γk Γn ma)) (hr : PSs X rest (rdS Z Ex Γ Γm Γn mr)) :
    PSs X (.If c a [] pos :: rest) (rdS Z Ex Γ Γm Γn (M.bind mc fun t => if t then exits ma else mr)) :=
  pss_imp (pss_cons (ps_if hc ha pss_nil) hr) fun Dn σ H ⟨P, s, G, hB, o, q⟩ => sT o q fun t s1 G1 H1 g o1 q1 => by
    cases t with
    | true => exact iteT ⟨P, s1, G1, hB, o1, PostS.thn q1 fun x s' σ' G' H' g' o' q' => nomatch x⟩
    | false => exact iteF ⟨P, s1, G1, hB, o1, q1⟩
end
/-! ### what an own list does -/
theorem tyV_lst {K : PySem.W.Frag} {H : Hp} {p : Addr} {vs : List V} (h : H p = some (.lst vs)) : tyV K "list" (.ref p) H := Or.inl ⟨rfl, _, Or.inl (Or.inl h)⟩
def dApp (l : List D) (d : D) : Option (List D) := if l.length < 1000000 then some (l ++ [d]) else none
def dExt (l : List D) : D → Option (List D)
  | .list m => if l.length + m.length ≤ 1000000 then some (l ++ m) else none
  | _ => none
def dRem (l : List D) : D → Option (List D)
  | .int k => (intsOf l).bind fun ns => if k ∈ ns then some ((ns.erase k).map PyData.int) else none
  | _ => none
def dPop (l : List D) : Option (D × List D) := match l.getLast? with
  | some d => some (d, l.dropLast)
  | none => none
def dPopAt (l : List D) : D → Option (D × List D)
  | .int i => if 0 ≤ i ∧ i < l.length ∧ l.length ≤ 1000000 then (l[i.toNat]?).map fun d => (d, l.eraseIdx i.toNat) else none
  | _ => none
def dPut (l : List D) (i d : D) : Option (List D) := match i with
  | .int i => (ixN l.length i).map fun j => l.set j d
  | _ => none
section
variable {γ δ α : Type} {Z : Fx} {Ex : XK} {X : Cx} {Γ : List Slot} {Γm : γ → List Slot} {Γn : α → List Slot} {rest : List Stmt} {e : Expr} {pos : Pos}
/-- x.append(e): he by pe_bm .. mt_append (pv i) (pa_cons e pa_nil) -/
theorem s_append (i : Nat) {l : List D} {me : M D} {k : List D → M (Out γ α)} (hg : Γ[i]? = some (.own l)) (he : PE X e (tBM X.K "list" rAppend (tVar i) (tCons (rdE Z Ex Γ me) tNil))) (hr : ∀ l', PSs X rest (rdS Z Ex (Γ.set i (.own l')) Γm Γn (k l')))
    (hs : swapsWith e none pos.line X.env = pure false := by rfl) :
    PSs X (.Expr e pos :: rest) (rdS Z Ex Γ Γm Γn (M.bind me fun d => M.bind (M.opt (dApp l d)) k)) :=
  pss_imp (pss_cons (ps_expr he hs) (pss_any hr)) fun Dn σ H ⟨P, s, G, hB, o, q⟩ => by
    obtain ⟨p, vs, e0, e1, e2⟩ := o.own hg
    refine ⟨.ref p, e0, tyV_lst e1, sE o q fun v d s1 G1 H1 g o1 r q1 => ?_⟩
    obtain ⟨l', e3, q2⟩ := PostS.opt q1
    obtain ⟨p', vs', e0', e1', e2', c⟩ := o1.change hB hg
    rw [e0] at e0'
    cases e0'
    unfold dApp at e3
    split at e3
    · rename_i hz
      cases e3
      exact ⟨p, vs', v, rfl, rfl, e1', by rw [e2'.length]; exact Nat.lt_trans hz (by decide), _, P, s1, G1, hB, c _ _ (e2'.append (.cons r .nil)), q2⟩
    · cases e3
/-- x.extend(e) -/
theorem s_extend (i : Nat) {l : List D} {me : M D} {k : List D → M (Out γ α)} (hg : Γ[i]? = some (.own l)) (he : PE X e (tBM X.K "list" rExtend (tVar i) (tCons (rdE Z Ex Γ me) tNil))) (hr : ∀ l', PSs X rest (rdS Z Ex (Γ.set i (.own l')) Γm Γn (k l')))
    (hs : swapsWith e none pos.line X.env = pure false := by rfl) :
    PSs X (.Expr e pos :: rest) (rdS Z Ex Γ Γm Γn (M.bind me fun d => M.bind (M.opt (dExt l d)) k)) :=
  pss_imp (pss_cons (ps_expr he hs) (pss_any hr)) fun Dn σ H ⟨P, s, G, hB, o, q⟩ => by
    obtain ⟨p, vs, e0, e1, e2⟩ := o.own hg
    refine ⟨.ref p, e0, tyV_lst e1, sE o q fun v d s1 G1 H1 g o1 r q1 => ?_⟩
    obtain ⟨l', e3, q2⟩ := PostS.opt q1
    obtain ⟨p', vs', e0', e1', e2', c⟩ := o1.change hB hg
    rw [e0] at e0'
    cases e0'
    cases r <;> simp [dExt] at e3
    rename_i b ws m hb rb
    obtain ⟨hz, e3⟩ := e3
    subst e3
    exact ⟨p, b, vs', ws, rfl, rfl, e1', o1.base.gh _ _ hb, by rw [e2'.length, rb.length]; exact big_line hz, _, P, s1, G1, hB, c _ _ (e2'.append rb), q2⟩
/-- x.remove(e), ints -/
theorem s_remove (i : Nat) {l : List D} {me : M D} {k : List D → M (Out γ α)} (hg : Γ[i]? = some (.own l)) (he : PE X e (tBM X.K "list" rRemI (tVar i) (tCons (rdE Z Ex Γ me) tNil))) (hr : ∀ l', PSs X rest (rdS Z Ex (Γ.set i (.own l')) Γm Γn (k l')))
    (hs : swapsWith e none pos.line X.env = pure false := by rfl) :
    PSs X (.Expr e pos :: rest) (rdS Z Ex Γ Γm Γn (M.bind me fun d => M.bind (M.opt (dRem l d)) k)) :=
  pss_imp (pss_cons (ps_expr he hs) (pss_any hr)) fun Dn σ H ⟨P, s, G, hB, o, q⟩ => by
    obtain ⟨p, vs, e0, e1, e2⟩ := o.own hg
    refine ⟨.ref p, e0, tyV_lst e1, sE o q fun v d s1 G1 H1 g o1 r q1 => ?_⟩
    obtain ⟨l', e3, q2⟩ := PostS.opt q1
    obtain ⟨p', vs', e0', e1', e2', c⟩ := o1.change hB hg
    rw [e0] at e0'
    cases e0'
    cases r <;> simp only [dRem] at e3 <;> try (cases e3; done)
    rename_i n
    rw [Option.bind_eq_some_iff] at e3
    obtain ⟨ns, e4, e5⟩ := e3
    split at e5
    · rename_i hm
      cases e5
      have e6 := e2'.map_int e4
      subst e6
      obtain ⟨j, h1, h2, h3, h4⟩ := L2.first_at hm
      refine ⟨p, ns, n, j, rfl, rfl, e1', h2, h3, _, P, s1, G1, hB, c _ _ ?_, q2⟩
      rw [h4]
      exact rps_ints _
    · cases e5
/-- y = x.pop() -/
theorem s_popSet (i j : Nat) {l : List D} {y : Str} {k : D → List D → M (Out γ α)} {p1 : Pos} [ck : Cok0 Z X] (hg : Γ[i]? = some (.own l)) (he : PE X e (tBM0 X.K "list" rPop (tVar i))) (hr : ∀ d l', PSs X rest (rdS Z Ex ((Γ.set i (.own l')).set j (.pur d)) Γm Γn (k d l')))
    (hi : X.N[j]? = some y := by rfl) (hΓ : (Γ.set i (.own l))[j]?.isSome = true := by rfl) (hx : Loc X.env.scope y := by first | exact Or.inl rfl | exact Or.inr rfl) (hs : swapsWith e (some (.Name y p1)) pos.line X.env = pure false := by rfl)
    (hf : X.fn y = true ∨ X.env.scope.names.lookup y = some .local := by first | exact .inl rfl | exact .inr rfl) :
    PSs X (.Assign [.Name y p1] e pos :: rest) (rdS Z Ex Γ Γm Γn (M.bind (M.opt (dPop l)) fun r => k r.1 r.2)) :=
  pss_imp (pss_cons (ps_set ck.nd hi hx he hs hf) (pss_any fun r : D × List D => hr r.1 r.2)) fun Dn σ H ⟨P, s, G, hB, o, q⟩ => by
    obtain ⟨p, vs, e0, e1, e2, c⟩ := o.change hB hg
    obtain ⟨r, e3, q2⟩ := PostS.opt q
    unfold dPop at e3
    split at e3
    · rename_i d hd
      cases e3
      have hd' : l[l.length - 1]? = some d := by rw [← List.getLast?_eq_getElem?]; exact hd
      obtain ⟨v, e4, rv⟩ := e2.get' hd'
      refine ⟨.ref p, e0, tyV_lst e1, p, vs, v, rfl, rfl, e1, by rw [e2.length]; exact e4, ⟨(d, l.dropLast), P, s, G, hB, ?_, q2⟩⟩
      have k1 := c vs.dropLast l.dropLast (by rw [List.dropLast_eq_take, List.dropLast_eq_take, e2.length]; exact e2.take _)
      obtain ⟨g0, hg0⟩ := Option.isSome_iff_exists.mp hΓ
      have hg1 : ∃ g, (Γ.set i (.own l.dropLast))[j]? = some g := by
        rw [List.getElem?_set] at hg0 ⊢
        split
        · rename_i e
          rw [if_pos e] at hg0
          split
          · exact ⟨_, rfl⟩
          · rename_i hl
            rw [if_neg hl] at hg0
            cases hg0
        · rename_i e
          rw [if_neg e] at hg0
          exact ⟨_, hg0⟩
      obtain ⟨g1, hg1⟩ := hg1
      exact k1.set hg1 rv
    · cases e3
/-- x.pop() for what it does -/
theorem s_pop (i : Nat) {l : List D} {k : D → List D → M (Out γ α)} (hg : Γ[i]? = some (.own l)) (he : PE X e (tBM0 X.K "list" rPop (tVar i))) (hr : ∀ d l', PSs X rest (rdS Z Ex (Γ.set i (.own l')) Γm Γn (k d l')))
    (hs : swapsWith e none pos.line X.env = pure false := by rfl) :
    PSs X (.Expr e pos :: rest) (rdS Z Ex Γ Γm Γn (M.bind (M.opt (dPop l)) fun r => k r.1 r.2)) :=
  pss_imp (pss_cons (ps_expr he hs) (pss_any fun r : D × List D => hr r.1 r.2)) fun Dn σ H ⟨P, s, G, hB, o, q⟩ => by
    obtain ⟨p, vs, e0, e1, e2, c⟩ := o.change hB hg
    obtain ⟨r, e3, q2⟩ := PostS.opt q
    unfold dPop at e3
    split at e3
    · rename_i d hd
      cases e3
      have hd' : l[l.length - 1]? = some d := by rw [← List.getLast?_eq_getElem?]; exact hd
      obtain ⟨v, e4, rv⟩ := e2.get' hd'
      exact ⟨.ref p, e0, tyV_lst e1, p, vs, v, rfl, rfl, e1, by rw [e2.length]; exact e4, ⟨(d, l.dropLast), P, s, G, hB, c vs.dropLast l.dropLast (by rw [List.dropLast_eq_take, List.dropLast_eq_take, e2.length]; exact e2.take _), q2⟩⟩
    · cases e3
/-- x[a] = e -/
theorem s_store (i : Nat) {l : List D} {x : Str} {a : Expr} {me ma : M D} {k : List D → M (Out γ α)} {p p2 : Pos} (hg : Γ[i]? = some (.own l)) (he : PE X e (rdE Z Ex Γ me)) (ht : PG X (.Subscript (.Name x p) a p2) (gSub (tVar i) (rdE Z Ex Γ ma) rSetL)) (hr : ∀ l', PSs X rest (rdS Z Ex (Γ.set i (.own l')) Γm Γn (k l')))
    (hs : swapsWithSole [.Subscript (.Name x p) a p2] e pos.line X.env = pure false := by rfl) (hw : swappedStores [.Subscript (.Name x p) a p2] e X.env = pure none := by rfl) (h1 : (assignEach [.Subscript (.Name x p) a p2] X.env).map (·.2) = [assign (.Subscript (.Name x p) a p2) X.env] := by rfl) :
    PSs X (.Assign [.Subscript (.Name x p) a p2] e pos :: rest) (rdS Z Ex Γ Γm Γn (M.bind me fun d => M.bind ma fun j => M.bind (M.opt (dPut l j d)) k)) :=
  pss_imp (pss_cons (ps_asg he ht hs hw h1) (pss_any hr)) fun Dn σ H ⟨P, s, G, hB, o, q⟩ => sE o q fun v d s1 G1 H1 g o1 r q1 => by
    obtain ⟨p, vs, e0, e1, e2⟩ := o1.own hg
    refine ⟨.ref p, e0, sE o1 q1 fun u j s2 G2 H2 g2 o2 r2 q2 => ?_⟩
    obtain ⟨l', e3, q3⟩ := PostS.opt q2
    obtain ⟨p', vs', e0', e1', e2', c⟩ := o2.change hB hg
    rw [e0] at e0'
    cases e0'
    cases r2 <;> simp only [dPut] at e3 <;> try (cases e3; done)
    rename_i n
    rw [Option.map_eq_some_iff] at e3
    obtain ⟨j, e4, rfl⟩ := e3
    exact ⟨p, vs', n, j, rfl, rfl, e1', by rw [e2'.length]; exact e4, _, P, s2, G2, hB, c _ _ (Rps.set (r.mono g2) j e2'), q3⟩
end
end Sim
end
section
set_option Elab.async false
set_option linter.all false
set_option maxRecDepth 100000
set_option maxHeartbeats 400000
namespace Sim
open PySem PySem.Spec PyProof.Rows L2
/-! ### what is walked -/
structure IterOk (Z : Fx) (J : It) (G : Hp) (l : List D) : Prop where
  go : ∀ i H, Same G H → i < l.length → J.go i H
  stop : ∀ H, Same G H → J.stop l.length H
  yld : ∀ i H x H' G1, Same G G1 → Sv G1 H → J.yld i H x H' → ∃ G2, Leave Z none G1 H G2 H' ∧ ∀ d, l[i]? = some d → Rp Z.K G2 x d
theorem IterOk.mono {Z : Fx} {J : It} {G G1 : Hp} {l : List D} (h : IterOk Z J G l) (g : Same G G1) : IterOk Z J G1 l :=
  ⟨fun i H s => h.go i H (g.trans s), fun H s => h.stop H (g.trans s), fun i H x H' G2 s => h.yld i H x H' G2 (g.trans s)⟩
def rdI (Z : Fx) (Ex : XK) (Γ : List Slot) (m : M (List D)) : TI := fun σ H R => ∃ P s G, Ok Z P Γ s σ G H ∧ Post Z Ex P Γ σ G (m s) fun l _ G' H' => ∀ J, IterOk Z J G' l → R J H'
section
variable {Z : Fx} {Ex : XK} {X : Cx} {Γ : List Slot} {tg a b e : Expr} {ma mb : M D} {pos p : Pos}
theorem iter_lst {K : PySem.W.Frag} {mg : Str → Option Value} {T : List (Addr × Str)} {a : Addr} {vs : List V} {l : List D} {G : Hp} (h : G a = some (.lst vs)) (r : Rps K G vs l) : IterOk ⟨K, mg, T⟩ (Itl K a) G l where
  go i H s hi := by
    have hi' : i < vs.length := by rw [r.length]; exact hi
    exact ⟨vs, vs[i], .inl (.inl (s _ _ h)), by simp⟩
  stop H s := ⟨vs, .inl (.inl (s _ _ h)), by rw [r.length]; exact Nat.le_refl _⟩
  yld i H x H' G1 g1 s y := by
    obtain ⟨rfl, y⟩ := y
    refine ⟨G1, .refl s, fun d hd => ?_⟩
    obtain ⟨v, e1, e2⟩ := r.get' hd
    have := y vs (.inl (.inl (s _ _ (g1 _ _ h))))
    rw [e1] at this
    cases this
    exact e2.mono g1
theorem iter_tup {K : PySem.W.Frag} {mg : Str → Option Value} {T : List (Addr × Str)} {a : Addr} {vs : List V} {l : List D} {G : Hp} (h : G a = some (.tup vs)) (r : Rps K G vs l) : IterOk ⟨K, mg, T⟩ (Itt K a) G l where
  go i H s hi := by
    have hi' : i < vs.length := by rw [r.length]; exact hi
    exact ⟨vs, vs[i], .inl (.inl (s _ _ h)), by simp⟩
  stop H s := ⟨vs, .inl (.inl (s _ _ h)), by rw [r.length]; exact Nat.le_refl _⟩
  yld i H x H' G1 g1 s y := by
    obtain ⟨rfl, y⟩ := y
    refine ⟨G1, .refl s, fun d hd => ?_⟩
    obtain ⟨v, e1, e2⟩ := r.get' hd
    have := y vs (.inl (.inl (s _ _ (g1 _ _ h))))
    rw [e1] at this
    cases this
    exact e2.mono g1
theorem Post.bind_eq {α β : Type} {P : Par} {G : Hp} {s : List D} {σ : L2.St} {m : M α} {k : α → M β} {K : β → List D → Hp → Hp → Prop} (h : Post Z Ex P Γ σ G (M.bind m k s) K) : Post Z Ex P Γ σ G (m s) fun a s' G' _ => m s = .ok (a, s') ∧ Post Z Ex P Γ σ G' (k a s') K := by
  unfold M.bind at h
  cases e : m s with
  | ok r =>
    rw [e] at h
    exact fun G' H' g o => ⟨rfl, Post.grow h g⟩
  | exn x =>
    rw [e] at h
    exact h
  | stuck =>
    rw [e] at h
    exact h
theorem stepE_eq {β : Type} {P : Par} {G H : Hp} {s : List D} {σ : L2.St} {m : M D} {k : D → M β} {K : β → List D → Hp → Hp → Prop} {C : V → Hp → Prop} (o : Ok Z P Γ s σ G H) (h : Post Z Ex P Γ σ G (M.bind m k s) K)
    (c : ∀ v d s1 G1 H1, m s = .ok (d, s1) → Same G G1 → Ok Z P Γ s1 σ G1 H1 → Rp Z.K G1 v d → Post Z Ex P Γ σ G1 (k d s1) K → C v H1) : rdE Z Ex Γ m σ H C :=
  ⟨P, s, G, o, (Post.bind_eq h).mono fun d s1 G1 H1 g o1 q v r => c v d s1 G1 H1 q.1 g o1 r q.2⟩
/-- over a list or a tuple -/
theorem i_seq [ck : Cok0 Z X] (he : PE X e (rdE Z Ex Γ ma)) : PI X tg e (rdI Z Ex Γ (M.bind ma fun d => M.opt (dItems d))) :=
  pi_imp (pi_or (pi_list he) (pi_tup he)) fun σ H R ⟨P, s, G, o, q⟩ => by
    obtain ⟨K, mg, T⟩ := Z
    have eK : X.K = K := ck.K
    by_cases hl : ∃ l s', ma s = .ok (.tuple l, s')
    · obtain ⟨l0, s0, e0⟩ := hl
      refine .inr (stepE_eq o q fun v d s1 G1 H1 ee g o1 r q1 => ?_)
      rw [e0] at ee
      cases ee
      cases r with
      | @tup a vs ds h r =>
        rw [eK]
        exact ⟨a, rfl, ⟨vs, .inl (.inl (o1.base.gh _ _ h))⟩, Post.pure (a := l0) q1 o1 _ (iter_tup h r)⟩
    · refine .inl (stepE_eq o q fun v d s1 G1 H1 ee g o1 r q1 => ?_)
      cases r with
      | @lst a vs ds h r =>
        rw [eK]
        exact ⟨a, rfl, ⟨vs, .inl (.inl (o1.base.gh _ _ h))⟩, Post.pure (a := ds) q1 o1 _ (iter_lst h r)⟩
      | tup h r => exact absurd ⟨_, _, ee⟩ hl
      | _ => exact q1.elim
def rngD (lo : Int) (n : Nat) : List D := (List.range n).map fun i => .int (lo + (i : Nat))
theorem iter_rng {G : Hp} (lo : Int) (n : Nat) : IterOk Z (Itr lo n) G (rngD lo n) where
  go i H s hi := by
    have : i < n := by simpa [rngD] using hi
    exact this
  stop H s := by
    show n ≤ (rngD lo n).length
    simp [rngD]
  yld i H x H' G1 g1 s y := by
    obtain ⟨rfl, rfl⟩ := y
    refine ⟨G1, .refl s, fun d hd => ?_⟩
    unfold rngD at hd
    rw [List.getElem?_map] at hd
    cases q : (List.range n)[i]? with
    | none => rw [q] at hd; cases hd
    | some j =>
      rw [q] at hd
      cases hd
      rw [List.getElem?_eq_some_iff] at q
      obtain ⟨_, q⟩ := q
      simp at q
      subst q
      exact .int _
def dRng1 : List D → Option (List D)
  | [.int n] => if -1000000 ≤ n ∧ n ≤ 1000000 then some (rngD 0 n.toNat) else none
  | _ => none
def dRng2 : List D → Option (List D)
  | [.int a, .int b] => if (-1000000 ≤ a ∧ a ≤ 1000000) ∧ (-1000000 ≤ b ∧ b ≤ 1000000) then some (rngD a (b - a).toNat) else none
  | _ => none
variable {ms : M (List D)}
/-- over range(n): hp by pi_range1 -/
theorem i_rng1 (hp : PI X tg e (iRng1 (rdA Z Ex Γ ms))) : PI X tg e (rdI Z Ex Γ (M.bind ms fun n => M.opt (dRng1 n))) := by
  refine pi_imp hp fun σ H R ⟨P, s, G, o, q⟩ => stepA o q fun v d s1 G1 H1 g o1 r q1 => ?_
  obtain ⟨l, e, q2⟩ := Post.opt q1
  unfold dRng1 at e
  split at e
  · rename_i n
    split at e
    · rename_i hn
      cases e
      cases r with
      | cons r1 r2 =>
        cases r1
        cases r2
        exact ⟨n, rfl, by omega, by omega, Post.pure q2 o1 _ (iter_rng 0 _)⟩
    · cases e
  · cases e
theorem i_rng2 (hp : PI X tg e (iRng2 (rdA Z Ex Γ ms))) : PI X tg e (rdI Z Ex Γ (M.bind ms fun n => M.opt (dRng2 n))) := by
  refine pi_imp hp fun σ H R ⟨P, s, G, o, q⟩ => stepA o q fun v d s1 G1 H1 g o1 r q1 => ?_
  obtain ⟨l, e, q2⟩ := Post.opt q1
  unfold dRng2 at e
  split at e
  · rename_i a b
    split at e
    · rename_i hn
      cases e
      cases r with
      | cons r1 r2 =>
        cases r1
        cases r2 with
        | cons r3 r4 =>
          cases r3
          cases r4
          exact ⟨a, b, rfl, by omega, Post.pure q2 o1 _ (iter_rng _ _)⟩
    · cases e
  · cases e
/-! ### pairs: zip, enumerate -/
def zipD (l m : List D) : List D := (l.zip m).map fun p => .tuple [p.1, p.2]
theorem zipD_at {l m : List D} {i : Nat} {d : D} (h : (zipD l m)[i]? = some d) : ∃ x y, l[i]? = some x ∧ m[i]? = some y ∧ d = .tuple [x, y] := by
  unfold zipD at h
  rw [List.getElem?_map, Option.map_eq_some_iff] at h
  obtain ⟨⟨x, y⟩, h1, rfl⟩ := h
  rw [List.getElem?_zip_eq_some] at h1
  exact ⟨x, y, h1.1, h1.2, rfl⟩
theorem iter_zip {K : PySem.W.Frag} {mg : Str → Option Value} {T : List (Addr × Str)} {a b : Addr} {vs ws : List V} {l m : List D} {G : Hp} (h : G a = some (.lst vs)) (r : Rps K G vs l) (h' : G b = some (.lst ws)) (r' : Rps K G ws m) : IterOk ⟨K, mg, T⟩ (Itz K a b) G (zipD l m) where
  go i H s hi := by
    have hi' : i < l.length ∧ i < m.length := by
      have : i < min l.length m.length := by simpa [zipD, List.length_zip] using hi
      omega
    have h1 : i < vs.length := by rw [r.length]; exact hi'.1
    have h2 : i < ws.length := by rw [r'.length]; exact hi'.2
    exact ⟨vs, ws, vs[i], ws[i], .inl (.inl (s _ _ h)), .inl (.inl (s _ _ h')), by simp, by simp⟩
  stop H s := by
    refine ⟨vs, ws, .inl (.inl (s _ _ h)), .inl (.inl (s _ _ h')), ?_⟩
    have : (zipD l m).length = min l.length m.length := by simp [zipD, List.length_zip]
    rw [r.length, r'.length, this]
    omega
  yld i H x H' G1 g1 s y := by
    obtain ⟨T, x1, y1, rfl, hT, rfl, c1, c2⟩ := y
    refine ⟨upd G1 T (.tup [x1, y1]), .new s hT, fun d hd => ?_⟩
    obtain ⟨dx, dy, e1, e2, rfl⟩ := zipD_at hd
    obtain ⟨v, e3, e4⟩ := r.get' e1
    obtain ⟨w, e5, e6⟩ := r'.get' e2
    have q1 := c1 vs (.inl (.inl (s _ _ (g1 _ _ h))))
    have q2 := c2 ws (.inl (.inl (s _ _ (g1 _ _ h'))))
    rw [e3] at q1
    rw [e5] at q2
    cases q1
    cases q2
    have gu := g1.trans (same_upd (o := .tup [x1, y1]) (s.free hT))
    exact .tup upd_same (.cons (e4.mono gu) (.cons (e6.mono gu) .nil))
theorem iter_zipT {K : PySem.W.Frag} {mg : Str → Option Value} {T : List (Addr × Str)} {a b : Addr} {vs ws : List V} {l m : List D} {G : Hp} (h : G a = some (.tup vs)) (r : Rps K G vs l) (h' : G b = some (.tup ws)) (r' : Rps K G ws m) : IterOk ⟨K, mg, T⟩ (RZ.ItzT K a b) G (zipD l m) where
  go i H s hi := by
    have hi' : i < l.length ∧ i < m.length := by
      have : i < min l.length m.length := by simpa [zipD, List.length_zip] using hi
      omega
    have h1 : i < vs.length := by rw [r.length]; exact hi'.1
    have h2 : i < ws.length := by rw [r'.length]; exact hi'.2
    exact ⟨vs, ws, vs[i], ws[i], .inl (.inl (s _ _ h)), .inl (.inl (s _ _ h')), by simp, by simp⟩
  stop H s := by
    refine ⟨vs, ws, .inl (.inl (s _ _ h)), .inl (.inl (s _ _ h')), ?_⟩
    have : (zipD l m).length = min l.length m.length := by simp [zipD, List.length_zip]
    rw [r.length, r'.length, this]
    omega
  yld i H x H' G1 g1 s y := by
    obtain ⟨T, x1, y1, rfl, hT, rfl, c1, c2⟩ := y
    refine ⟨upd G1 T (.tup [x1, y1]), .new s hT, fun d hd => ?_⟩
    obtain ⟨dx, dy, e1, e2, rfl⟩ := zipD_at hd
    obtain ⟨v, e3, e4⟩ := r.get' e1
    obtain ⟨w, e5, e6⟩ := r'.get' e2
    have q1 := c1 vs (.inl (.inl (s _ _ (g1 _ _ h))))
    have q2 := c2 ws (.inl (.inl (s _ _ (g1 _ _ h'))))
    rw [e3] at q1
    rw [e5] at q2
    cases q1
    cases q2
    have gu := g1.trans (same_upd (o := .tup [x1, y1]) (s.free hT))
    exact .tup upd_same (.cons (e4.mono gu) (.cons (e6.mono gu) .nil))
def dZip : List D → Option (List D)
  | [.list a, .list b] => some (zipD a b)
  | [.tuple a, .tuple b] => some (zipD a b)
  | _ => none
/-- over zip(a, b): hp by pi_zipA -/
theorem i_zip [ck : Cok0 Z X] (hp : PI X tg e (RZ.iZipA X.K (rdA Z Ex Γ ms))) : PI X tg e (rdI Z Ex Γ (M.bind ms fun n => M.opt (dZip n))) := by
  refine pi_imp hp fun σ H R ⟨P, s, G, o, q⟩ => stepA o q fun v d s1 G1 H1 g o1 r q1 => ?_
  obtain ⟨K, mg, T⟩ := Z
  have eK : X.K = K := ck.K
  rw [eK]
  obtain ⟨l, e, q2⟩ := Post.opt q1
  unfold dZip at e
  split at e
  · cases e
    cases r with
    | cons r1 r2 =>
      cases r1 with
      | lst h1 r1 =>
      cases r2 with
      | cons r3 r4 =>
        cases r3 with
        | lst h3 r3 =>
        cases r4
        exact ⟨_, _, _, _, rfl, .inl ⟨.inl (.inl (o1.base.gh _ _ h1)), .inl (.inl (o1.base.gh _ _ h3)), Post.pure q2 o1 _ (iter_zip h1 r1 h3 r3)⟩⟩
  · cases e
    cases r with
    | cons r1 r2 =>
      cases r1 with
      | tup h1 r1 =>
      cases r2 with
      | cons r3 r4 =>
        cases r3 with
        | tup h3 r3 =>
        cases r4
        exact ⟨_, _, _, _, rfl, .inr ⟨.inl (.inl (o1.base.gh _ _ h1)), .inl (.inl (o1.base.gh _ _ h3)), Post.pure q2 o1 _ (iter_zipT h1 r1 h3 r3)⟩⟩
  · cases e
def enumD (l : List D) : List D := l.mapIdx fun i d => .tuple [.int (i : Nat), d]
theorem iter_enum {K : PySem.W.Frag} {mg : Str → Option Value} {T : List (Addr × Str)} {a : Addr} {vs : List V} {l : List D} {G : Hp} (h : G a = some (.lst vs)) (r : Rps K G vs l) : IterOk ⟨K, mg, T⟩ (Ite K a) G (enumD l) where
  go i H s hi := by
    have hi' : i < vs.length := by rw [r.length]; simpa [enumD] using hi
    exact ⟨vs, vs[i], .inl (.inl (s _ _ h)), by simp⟩
  stop H s := ⟨vs, .inl (.inl (s _ _ h)), by rw [r.length]; simp [enumD]⟩
  yld i H x H' G1 g1 s y := by
    obtain ⟨T, x1, rfl, hT, rfl, c1⟩ := y
    refine ⟨upd G1 T (.tup [.int (i : Nat), x1]), .new s hT, fun d hd => ?_⟩
    unfold enumD at hd
    rw [List.getElem?_mapIdx, Option.map_eq_some_iff] at hd
    obtain ⟨dx, e1, rfl⟩ := hd
    obtain ⟨v, e3, e4⟩ := r.get' e1
    have q1 := c1 vs (.inl (.inl (s _ _ (g1 _ _ h))))
    rw [e3] at q1
    cases q1
    exact .tup upd_same (.cons (.int _) (.cons (e4.mono (g1.trans (same_upd (s.free hT)))) .nil))
def dEnumL : List D → Option (List D)
  | [.list a] => some (enumD a)
  | _ => none
/-- over enumerate(list): hp by pi_enum -/
theorem i_enum [ck : Cok0 Z X] (hp : PI X tg e (iEnum X.K (rdA Z Ex Γ ms))) : PI X tg e (rdI Z Ex Γ (M.bind ms fun n => M.opt (dEnumL n))) := by
  refine pi_imp hp fun σ H R ⟨P, s, G, o, q⟩ => stepA o q fun v d s1 G1 H1 g o1 r q1 => ?_
  obtain ⟨K, mg, T⟩ := Z
  have eK : X.K = K := ck.K
  rw [eK]
  obtain ⟨l, e, q2⟩ := Post.opt q1
  unfold dEnumL at e
  split at e
  · cases e
    cases r with
    | cons r1 r2 =>
      cases r1 with
      | lst h1 r1 =>
      cases r2
      exact ⟨_, _, rfl, .inl (.inl (o1.base.gh _ _ h1)), Post.pure q2 o1 _ (iter_enum h1 r1)⟩
  · cases e
end
end Sim
end
section
set_option Elab.async false
set_option linter.all false
set_option maxRecDepth 100000
set_option maxHeartbeats 400000
namespace Sim
open PySem PySem.Spec PyProof.Rows L2
/-- what an exception may do where a term stands -/
class Eok (Ex : XK) (X : Cx) : Prop where
  pass : Passes (L2.CX X.prog X.w) X Ex
  takes : Takes X (fun cls d _ H => Ex cls d H)
  own : PassesOwn (model X.prog X.w) X.A X.env X.xe
section
variable {Z : Fx} {P : Par} {G H : Hp} {Γ : List Slot} {s : List D} {σ : L2.St}
theorem SlotsOk.length : ∀ {Γ : List Slot} {σ : L2.St} {fps : List Addr}, SlotsOk Z P G H Γ σ fps → Γ.length = σ.length
  | _, _, _, .nil => rfl
  | _, _, _, .cons _ r => by simp [SlotsOk.length r]
theorem Ok.set' (k : Ok Z P Γ s σ G H) (i : Nat) {v : V} {d : D} (r : Rp Z.K G v d) : Ok Z P (Γ.set i (.pur d)) s (σ.set i (some v)) G H := by
  cases e : Γ[i]? with
  | some g => exact k.set e r
  | none =>
    have hl : Γ.length ≤ i := List.getElem?_eq_none_iff.mp e
    obtain ⟨fps, h1, _⟩ := k.sl
    have := h1.length
    rw [List.set_eq_of_length_le hl, List.set_eq_of_length_le (by omega)]
    exact k
theorem wipe_set {i : Nat} {v : Option V} : ∀ {vs : List Nat} {σ : L2.St}, i ∈ vs → wipe (σ.set i v) vs = wipe σ vs
  | j :: vs, σ, h => by
    show (wipe (σ.set i v) vs).set j none = (wipe σ vs).set j none
    by_cases hj : i = j
    · subst hj
      have aux : ∀ (vs : List Nat) (σ : L2.St), (wipe (σ.set i v) vs).set i none = (wipe σ vs).set i none := by
        intro vs
        induction vs with
        | nil => intro σ; show (σ.set i v).set i none = σ.set i none; rw [List.set_set]
        | cons u us ih =>
          intro σ
          show ((wipe (σ.set i v) us).set u none).set i none = ((wipe σ us).set u none).set i none
          by_cases hu : u = i
          · subst hu
            rw [List.set_set, List.set_set, ih]
          · rw [List.set_comm _ _ hu, List.set_comm _ _ hu, ih]
      exact aux vs σ
    · have h' : i ∈ vs := by
        rcases List.mem_cons.mp h with h | h
        · exact absurd h hj
        · exact h
      rw [wipe_set h']
end
/-! ### targets -/
structure TgUp (K : PySem.W.Frag) (g : TG) (ix : List Nat) {ι : Type} (bnd : D → Option ι) (up : ι → List Slot → List Slot) : Prop where
  ok : ∀ (Z : Fx) (P : Par) (Γ : List Slot) (s : List D) (σ : L2.St) (G H : Hp) (v : V) (d : D) (x : ι) (Q : L2.St → Hp → Prop), Z.K = K → Ok Z P Γ s σ G H → Rp Z.K G v d → bnd d = some x →
    (∀ σ', Ok Z P (up x Γ) s σ' G H → (∀ vs : List Nat, (∀ i ∈ ix, i ∈ vs) → wipe σ' vs = wipe σ vs) → Q σ' H) → g v σ H Q
def bnd2 : D → Option (D × D)
  | .tuple [a, b] => some (a, b)
  | _ => none
def bnd3 : D → Option (D × D × D)
  | .tuple [a, b, c] => some (a, b, c)
  | _ => none
def bnd4 : D → Option (D × D × D × D)
  | .tuple [a, b, c, d] => some (a, b, c, d)
  | _ => none
def bndL2 : D → Option (D × D)
  | .list [a, b] => some (a, b)
  | _ => none
def up1 (i : Nat) : D → List Slot → List Slot := fun d Γ => Γ.set i (.pur d)
def up2 (i j : Nat) : D × D → List Slot → List Slot := fun x Γ => (Γ.set i (.pur x.1)).set j (.pur x.2)
def up3 (i j k : Nat) : D × D × D → List Slot → List Slot := fun x Γ => ((Γ.set i (.pur x.1)).set j (.pur x.2.1)).set k (.pur x.2.2)
def up4 (i j k l : Nat) : D × D × D × D → List Slot → List Slot := fun x Γ => (((Γ.set i (.pur x.1)).set j (.pur x.2.1)).set k (.pur x.2.2.1)).set l (.pur x.2.2.2)
section
variable {K : PySem.W.Frag}
theorem tg1 (i : Nat) : TgUp K (gName i) [i] some (up1 i) :=
  ⟨fun Z P Γ s σ G H v d x Q _ o r e h => by
    cases e
    exact h _ (o.set' i r) fun vs hv => wipe_set (hv i (by simp))⟩
theorem tg2 (i j : Nat) : TgUp K (gTup K 2 (gCons (gName i) (gCons (gName j) gNil))) [i, j] bnd2 (up2 i j) :=
  ⟨fun Z P Γ s σ G H v d x Q eK o r e h => by
    unfold bnd2 at e
    split at e
    · cases e
      cases r with
      | @tup a vs ds ha r =>
        cases r with
        | cons r1 r =>
        cases r with
        | cons r2 r =>
        cases r
        exact ⟨a, _, rfl, .inl (.inl (o.base.gh _ _ ha)), rfl, _, _, rfl, _, _, rfl, rfl, h _ ((o.set' i r1).set' j r2) fun vs hv => by rw [wipe_set (hv j (by simp)), wipe_set (hv i (by simp))]⟩
    · cases e⟩
theorem tg3 (i j k : Nat) : TgUp K (gTup K 3 (gCons (gName i) (gCons (gName j) (gCons (gName k) gNil)))) [i, j, k] bnd3 (up3 i j k) :=
  ⟨fun Z P Γ s σ G H v d x Q eK o r e h => by
    unfold bnd3 at e
    split at e
    · cases e
      cases r with
      | @tup a vs ds ha r =>
        cases r with
        | cons r1 r =>
        cases r with
        | cons r2 r =>
        cases r with
        | cons r3 r =>
        cases r
        exact ⟨a, _, rfl, .inl (.inl (o.base.gh _ _ ha)), rfl, _, _, rfl, _, _, rfl, _, _, rfl, rfl, h _ (((o.set' i r1).set' j r2).set' k r3) fun vs hv => by rw [wipe_set (hv k (by simp)), wipe_set (hv j (by simp)), wipe_set (hv i (by simp))]⟩
    · cases e⟩
theorem tg4 (i j k l : Nat) : TgUp K (gTup K 4 (gCons (gName i) (gCons (gName j) (gCons (gName k) (gCons (gName l) gNil))))) [i, j, k, l] bnd4 (up4 i j k l) :=
  ⟨fun Z P Γ s σ G H v d x Q eK o r e h => by
    unfold bnd4 at e
    split at e
    · cases e
      cases r with
      | @tup a vs ds ha r =>
        cases r with
        | cons r1 r =>
        cases r with
        | cons r2 r =>
        cases r with
        | cons r3 r =>
        cases r with
        | cons r4 r =>
        cases r
        exact ⟨a, _, rfl, .inl (.inl (o.base.gh _ _ ha)), rfl, _, _, rfl, _, _, rfl, _, _, rfl, _, _, rfl, rfl, h _ ((((o.set' i r1).set' j r2).set' k r3).set' l r4) fun vs hv => by rw [wipe_set (hv l (by simp)), wipe_set (hv k (by simp)), wipe_set (hv j (by simp)), wipe_set (hv i (by simp))]⟩
    · cases e⟩
/-- (a, b) = a list -/
theorem tgL2 (i j : Nat) : TgUp K (gUnl K 2 (gCons (gName i) (gCons (gName j) gNil))) [i, j] bndL2 (up2 i j) :=
  ⟨fun Z P Γ s σ G H v d x Q eK o r e h => by
    unfold bndL2 at e
    split at e
    · cases e
      cases r with
      | @lst a vs ds ha r =>
        cases r with
        | cons r1 r =>
        cases r with
        | cons r2 r =>
        cases r
        exact ⟨a, _, rfl, .inl (.inl (o.base.gh _ _ ha)), rfl, _, _, rfl, _, _, rfl, rfl, h _ ((o.set' i r1).set' j r2) fun vs hv => by rw [wipe_set (hv j (by simp)), wipe_set (hv i (by simp))]⟩
    · cases e⟩
end
section
variable {γ δ α β ι : Type} {Z : Fx} {Ex : XK} {X : Cx} {Γ : List Slot} {Γm : γ → List Slot} {Γn : β → List Slot} {Γl : α → List Slot} {rest body : List Stmt} {e tg iter : Expr} {pos : Pos} {ix : List Nat} {g : TG} {bnd : D → Option ι} {up : ι → List Slot → List Slot}
/-- a, b = e -/
theorem s_unpack {me : M D} {k : ι → M (Out γ β)} [ck : Cok0 Z X] (he : PE X e (rdE Z Ex Γ me)) (hg : PG X tg g) (ht : TgUp X.K g ix bnd up) (hr : ∀ x, PSs X rest (rdS Z Ex (up x Γ) Γm Γn (k x)))
    (hs : swapsWithSole [tg] e pos.line X.env = pure false := by rfl) (hw : swappedStores [tg] e X.env = pure none := by rfl) (h1 : (assignEach [tg] X.env).map (·.2) = [assign tg X.env] := by rfl) :
    PSs X (.Assign [tg] e pos :: rest) (rdS Z Ex Γ Γm Γn (M.bind me fun d => M.bind (M.opt (bnd d)) k)) := by
  replace ht := ht.ok
  refine pss_imp (pss_cons (ps_asg he hg hs hw h1) (pss_any hr)) fun Dn σ H ⟨P, s, G, hB, o, q⟩ => sE o q fun v d s1 G1 H1 g o1 r q1 => ?_
  obtain ⟨x, e, q2⟩ := PostS.opt q1
  exact ht Z P Γ s1 σ G1 H1 v d x _ ck.K.symm o1 r e fun σ' o2 _ => ⟨x, P, s1, G1, hB, o2, q2⟩
theorem sI {P : Par} {G H : Hp} {s : List D} {σ : L2.St} {m : M (List D)} {k : List D → M (Out γ β)} {Dn : Ends} {C : It → Hp → Prop} (o : Ok Z P Γ s σ G H) (h : PostS Z Ex P G Γm Γn (M.bind m k s) Dn)
    (c : ∀ J l s1 G1 H1, Same G G1 → Ok Z P Γ s1 σ G1 H1 → IterOk Z J G1 l → PostS Z Ex P G1 Γm Γn (k l s1) Dn → C J H1) : rdI Z Ex Γ m σ H C :=
  ⟨P, s, G, o, (PostS.bindE h).mono fun l s1 G1 H1 g o1 q J it => c J l s1 G1 H1 g o1 it q⟩
/-- what a turn's end gives of the loop -/
theorem PostS.turn {P : Par} {G : Hp} {s : List D} {m : M (Out α α)} {L : α → M (Out α β)} {k : α → M (Out γ β)} {Dn : Ends} {N bk : L2.St → Hp → Prop}
    (h : PostS Z Ex P G Γm Γn (andThen (M.bind m fun o => match o with
      | .nx a' => L a'
      | .cnt a' => L a'
      | .brk a' => M.pure (.nx a')
      | .ret d => M.pure (.ret d)
      | .retL l => M.pure (.retL l)) k s) Dn)
    (c : ∀ a s' σ' G' H', Same G G' → Ok Z P (Γl a) s' σ' G' H' → PostS Z Ex P G' Γm Γn (andThen (L a) k s') Dn → N σ' H')
    (b : ∀ a s' σ' G' H', Same G G' → Ok Z P (Γl a) s' σ' G' H' → PostS Z Ex P G' Γm Γn (k a s') Dn → bk σ' H') :
    PostS Z Ex P G Γl Γl (m s) { Dn with nx := N, ct := N, bk := bk } := by
  unfold andThen M.bind at h
  cases e : m s with
  | ok r =>
    rw [e] at h
    obtain ⟨o, s'⟩ := r
    cases o with
    | nx x => exact fun σ' G' H' g o => c x s' σ' G' H' g o (PostS.grow h g)
    | cnt x => exact fun σ' G' H' g o => c x s' σ' G' H' g o (PostS.grow h g)
    | brk x => exact fun σ' G' H' g o => b x s' σ' G' H' g o (PostS.grow h g)
    | ret d => exact h
    | retL d => exact h
  | exn x =>
    rw [e] at h
    exact h
  | stuck =>
    rw [e] at h
    exact h
theorem s_for {mi : M (List D)} {f : ι → α → M (Out α α)} {a0 : α} {k : α → M (Out γ β)} [ck : Cok Z X] [ek : Eok Ex X] (hi : PI X tg iter (rdI Z Ex Γ mi)) (hg : PG X tg g) (ht : TgUp X.K g ix bnd up) (hb : ∀ x a, PSs X body (rdS Z Ex (up x (Γl a)) Γl Γl (f x a)))
    (hr : ∀ a, PSs X rest (rdS Z Ex (Γl a) Γm Γn (k a))) (w : Weak Γ (Γl a0)) (hs : ∀ x, foldedSetIterable iter X.env x = pure x := by intro _; rfl) :
    PSs X (.For tg iter body [] pos :: rest) (rdS Z Ex Γ Γm Γn (M.bind mi fun l => andThen (mFor (fun d a => M.bind (M.opt (bnd d)) fun x => f x a) l a0) k)) := by
  replace ht := ht.ok
  refine pss_imp (pss_cons (ps_for ek.own ck.calm hi hg (pss_any fun x : ι × α => hb x.1 x.2) hs) (pss_any hr)) fun Dn σ H ⟨P, s, G, hB, o, q⟩ => sI o q fun J l s1 G1 H1 g1 o1 it q1 => ?_
  refine ⟨fun i m σ' H' => m = l.length - i ∧ i ≤ l.length ∧ ∃ a s' G', Same G1 G' ∧ Ok Z P (Γl a) s' σ' G' H' ∧ PostS Z Ex P G' Γm Γn (andThen (mFor (fun d a => M.bind (M.opt (bnd d)) fun x => f x a) (l.drop i) a) k s') Dn, ⟨_, rfl, Nat.zero_le _, a0, s1, G1, Same.refl _, o1.weak w, q1⟩, ?_⟩
  rintro i m σ' H' ⟨rfl, hi', a, s', G', g', o', q'⟩
  by_cases hlt : i < l.length
  · refine .inr ⟨it.go i H' (g'.trans o'.base.gh) hlt, ?_⟩
    rw [List.drop_eq_getElem_cons hlt] at q'
    refine ⟨fun σ2 H2 => ∃ a s' G', Same G1 G' ∧ Ok Z P (Γl a) s' σ2 G' H2 ∧ PostS Z Ex P G' Γm Γn (andThen (mFor (fun d a => M.bind (M.opt (bnd d)) fun x => f x a) (l.drop (i + 1)) a) k s') Dn, fun σ2 H2 h => ⟨_, by omega, rfl, hlt, h⟩, fun x H2 y => ?_⟩
    obtain ⟨G2, lv, hd⟩ := it.yld i H' x H2 G' g' o'.base.gh y
    have rd := hd l[i] (by simp)
    have o2 := o'.leave lv
    have q2 : PostS Z Ex P G2 Γm Γn (andThen (M.bind (M.bind (M.opt (bnd l[i])) fun x => f x a) fun o => match o with
      | .nx a' => mFor (fun d a => M.bind (M.opt (bnd d)) fun x => f x a) (l.drop (i + 1)) a'
      | .cnt a' => mFor (fun d a => M.bind (M.opt (bnd d)) fun x => f x a) (l.drop (i + 1)) a'
      | .brk a' => M.pure (.nx a')
      | .ret d => M.pure (.ret d)
      | .retL l => M.pure (.retL l)) k s') Dn := PostS.grow q' lv.g
    rw [M.bind_assoc, andThen_bind] at q2
    obtain ⟨x', e', q3⟩ := PostS.opt q2
    refine ht Z P (Γl a) s' σ' G2 H2 x l[i] x' _ ck.K.symm o2 rd e' fun σ3 o3 _ => ⟨(x', a), P, s', G2, hB, o3, ?_⟩
    refine PostS.turn (Dn := Dn) q3 (fun a' s'' σ'' G'' H'' g'' o'' q'' => ⟨a', s'', G'', (g'.trans lv.g).trans g'', o'', q''⟩) fun a' s'' σ'' G'' H'' g'' o'' q'' => ⟨a', P, s'', G'', hB, o'', q''⟩
  · have e : i = l.length := by omega
    subst e
    rw [List.drop_length] at q'
    exact .inl ⟨it.stop H' (g'.trans o'.base.gh), a, P, s', G', hB, o', q'⟩
def fuel : Nat := 2 ^ 64
theorem s_while {c : Expr} {mc : α → M Bool} {f : α → M (Out α α)} {a0 : α} {k : α → M (Out γ β)} [ck : Cok0 Z X] [ek : Eok Ex X] (hc : ∀ a, PT X c (rdT Z Ex (Γl a) (mc a))) (hb : ∀ a, PSs X body (rdS Z Ex (Γl a) Γl Γl (f a)))
    (hr : ∀ a, PSs X rest (rdS Z Ex (Γl a) Γm Γn (k a))) (w : Weak Γ (Γl a0)) :
    PSs X (.While c body [] pos :: rest) (rdS Z Ex Γ Γm Γn (andThen (mWhile mc f fuel a0) k)) := by
  refine pss_imp (pss_cons (ps_while ek.own (pt_any hc) (pss_any hb)) (pss_any hr)) fun Dn σ H ⟨P, s, G, hB, o, q⟩ => ?_
  refine ⟨fun m σ' H' => ∃ a s' G', Ok Z P (Γl a) s' σ' G' H' ∧ PostS Z Ex P G' Γm Γn (andThen (mWhile mc f m a) k s') Dn, ⟨fuel, a0, s, G, o.weak w, q⟩, ?_⟩
  rintro m σ' H' ⟨a, s', G', o', q'⟩
  cases m with
  | zero => exact q'.elim
  | succ m =>
    rw [mWhile, andThen_bind] at q'
    refine ⟨a, sT o' q' fun t s1 G1 H1 g1 o1 q1 => ?_⟩
    cases t with
    | true =>
      refine iteT ⟨fun σ2 H2 => ∃ a s' G', Ok Z P (Γl a) s' σ2 G' H2 ∧ PostS Z Ex P G' Γm Γn (andThen (mWhile mc f m a) k s') Dn, fun σ2 H2 h => ⟨m, Nat.lt_succ_self _, h⟩, a, P, s1, G1, hB, o1, ?_⟩
      exact PostS.turn (Dn := Dn) q1 (fun a' s'' σ'' G'' H'' g'' o'' q'' => ⟨a', s'', G'', o'', q''⟩) fun a' s'' σ'' G'' H'' g'' o'' q'' => ⟨a', P, s'', G'', hB, o'', q''⟩
    | false => exact iteF ⟨a, P, s1, G1, hB, o1, q1⟩
end
end Sim
end
section
set_option Elab.async false
set_option linter.all false
set_option maxRecDepth 100000
set_option maxHeartbeats 400000
namespace Sim
open PySem PySem.Spec PyProof.Rows L2
def del (H : Hp) (p : Addr) : Hp := fun b => if b = p then none else H b
theorem del_same {H : Hp} {p : Addr} : del H p p = none := if_pos rfl
theorem del_ne {H : Hp} {p b : Addr} (h : b ≠ p) : del H p b = H b := if_neg h
theorem del_upd {H : Hp} {p : Addr} {o : HO} (h : H p = some o) : upd (del H p) p o = H := by
  funext b
  by_cases hb : b = p
  · rw [hb, upd_same, h]
  · rw [upd_ne hb, del_ne hb]
section
variable {Z : Fx} {P : Par} {G H G' H' : Hp} {Γ : List Slot} {s s' : List D} {σ : L2.St}
theorem tabs_del {T : List (Addr × Str)} {p : Addr} {vs : List V} (t : LamX.Tabs T H) (hp : H p = some (.lst vs)) : LamX.Tabs T (del H p) := fun x hx => by
  obtain ⟨ps, h1, h2, h3⟩ := t x hx
  refine ⟨ps, ?_, h2, fun pos cv hc => ?_⟩
  · rw [del_ne]
    · exact h1
    · intro e; rw [e, hp] at h1; cases h1
  · obtain ⟨c, e1, e2⟩ := h3 pos cv hc
    refine ⟨c, e1, ?_⟩
    rw [del_ne]
    · exact e2
    · intro e; rw [e, hp] at e2; cases e2
/-- an own list taken out of the heap -/
theorem Ok.delAt (k : Ok Z P Γ s σ G H) {i : Nat} {l : List D} (hi : Γ[i]? = some (.own l)) (he : ∀ p, σ[i]? = some (some (.ref p)) → P.No p) : ∃ p vs, σ[i]? = some (some (.ref p)) ∧ H p = some (.lst vs) ∧ Rps Z.K G vs l ∧ G p = none ∧ Ok Z P (Γ.set i .any) s σ G (del H p) := by
  obtain ⟨fps, h1, h2⟩ := k.sl
  obtain ⟨v0, fp, A, B, e0, a, rfl, h4⟩ := h1.split hi
  cases a with
  | @own p vs l a b c d =>
    have hpT : P.thr ≠ some p := fun e => by
      rw [e] at h2
      simp at h2
    have hpq : ∀ q ∈ A ++ B, q ≠ p := fun q hq e => by
      subst e
      have h3 := (List.nodup_append.mp h2).2.1
      simp only [List.append_assoc, List.cons_append, List.nil_append] at h3
      have h5 := (List.Perm.nodup_iff (List.perm_middle (a := q) (l₁ := A) (l₂ := B))).mp h3
      exact (List.nodup_cons.mp h5).1 (by simpa using hq)
    have hep := he p e0
    refine ⟨p, vs, e0, c, d, a, ⟨⟨k.base.lv.g, ⟨fun b o e => ?_, k.base.gh.nt⟩, k.base.lv.fr, fun b o e n => ?_, fun t => tabs_del (k.base.lv.tb t) c⟩, fun q hq => ?_, tabs_del k.base.tabs c⟩, fun q hq => ?_, A ++ [] ++ B, ?_, nodup_drop h2⟩
    · have : b ≠ p := fun z => by rw [z, a] at e; cases e
      rw [del_ne this]; exact k.base.gh _ _ e
    · have : b ≠ p := fun z => hep o (by rw [← z]; exact e) n
      rw [del_ne this]; exact k.base.lv.st b o e n
    · have : q ≠ p := fun z => by rw [z] at hq; exact b hq
      rw [del_ne this]; exact k.base.old q hq
    · obtain ⟨g1, ws, g2, g3⟩ := k.thr q hq
      refine ⟨g1, ws, ?_, g3⟩
      rw [del_ne]
      · exact g2
      · intro e; rw [e] at hq; exact hpT hq
    · have := h4 G (del H p) (Same.refl _) (fun q hq o e => ⟨(by
        obtain ⟨ws, e1, e2, _⟩ := h1.at q (by rcases List.mem_append.mp hq with h | h <;> simp [h])
        exact e2), by rw [del_ne (hpq q hq)]; exact e⟩) .any (some (.ref p)) [] .any
      rw [st_set_self e0] at this
      exact this
theorem Ok.cons (k : Ok Z P Γ s σ G H) {p : Addr} {vs : List V} {l : List D} (hp : H p = none) (r : Rps Z.K G vs l) : Ok Z P (.own l :: Γ) s (some (.ref p) :: σ) G (upd H p (.lst vs)) := by
  have k' : Ok Z P Γ s σ G (upd H p (.lst vs)) := k.leave (.beside k.base.gh hp)
  obtain ⟨fps, h1, h2⟩ := k.sl
  have hn := k.notin hp h1
  refine ⟨k'.base, k'.thr, [p] ++ fps, .cons (.own (k.base.gh.free hp) (k.base.new hp) upd_same r) (h1.mono (Same.refl _) fun q hq o e => ?_), ?_⟩
  · obtain ⟨ws, e1, e2, _⟩ := h1.at q hq
    exact ⟨e2, by rw [upd_ne (ne_of_none e hp)]; exact e⟩
  · have := nodup_ins (T := P.thr.toList) (A := []) (B := []) (C := fps) (p := p) (by simpa using h2) (by simpa using hn)
    simpa using this
theorem Ok.tail {g : Slot} {v : Option V} (k : Ok Z P (g :: Γ) s (v :: σ) G H) : Ok Z P Γ s σ G H := by
  obtain ⟨fps, h1, h2⟩ := k.sl
  cases h1 with
  | cons a r => exact ⟨k.base, k.thr, _, r, List.Sublist.nodup ((List.Sublist.refl _).append (List.sublist_append_right _ _)) h2⟩
/-- behind a part that ran from here -/
theorem Ok.leaveT (k : Ok Z P Γ s σ G H) (l : Leave Z P.thr G H G' H') (t : ThrOk Z P s' G' H') : Ok Z P Γ s' σ G' H' := by
  obtain ⟨fps, h1, h2⟩ := k.sl
  refine ⟨k.base.leave l, t, fps, h1.mono l.g fun q hq o e => ?_, h2⟩
  obtain ⟨vs, e1, e2, _⟩ := h1.at q hq
  have hne : P.thr ≠ some q := fun z => by
    rw [z] at h2
    simp only [Option.toList_some, List.cons_append, List.nil_append] at h2
    exact (List.nodup_cons.mp h2).1 hq
  rw [e1] at e; cases e
  exact l.keepAt hne e1 e2
/-- slots forgotten -/
def wipeS (Γ : List Slot) : List Nat → List Slot
  | [] => Γ
  | v :: vs => (wipeS Γ vs).set v .any
theorem Ok.setAny' (k : Ok Z P Γ s σ G H) (i : Nat) {v : Option V} : Ok Z P (Γ.set i .any) s (σ.set i v) G H := by
  cases e : Γ[i]? with
  | some g => exact k.setAny e
  | none =>
    have hl : Γ.length ≤ i := List.getElem?_eq_none_iff.mp e
    obtain ⟨fps, h1, _⟩ := k.sl
    have := h1.length
    rw [List.set_eq_of_length_le hl, List.set_eq_of_length_le (by omega)]
    exact k
theorem Ok.wipe (k : Ok Z P Γ s σ G H) : ∀ vs : List Nat, Ok Z P (wipeS Γ vs) s (wipe σ vs) G H
  | [] => k
  | v :: vs => (Ok.wipe k vs).setAny' v
end
abbrev XF : XK := fun _ _ _ => False
instance {Z : Fx} {X : Cx} [ck : Cok Z X] {s : Shared} {H : Hp} {scope : Scope} {cenv : Env} {fp : List Addr} : Cok Z (X.blk s H scope cenv fp) := { K := ck.K, mg := ck.mg, nd := ck.nd, hu := ck.hu, calm := ck.calm }
instance {X : Cx} {s : Shared} {H : Hp} {scope : Scope} {cenv : Env} {fp : List Addr} : Eok XF (X.blk s H scope cenv fp) := ⟨passL, takes0, PassesOwn.never⟩
/-- one turn of a comprehension -/
def mTurn {ι : Type} (bnd : D → Option ι) (ft : ι → M Bool) (fe : ι → M D) (d : D) : M (Option D) := M.nox (M.bind (M.opt (bnd d)) fun x => M.bind (ft x) fun t => if t then M.bind (fe x) fun y => M.pure (some y) else M.pure none)
def mComp {ι : Type} (bnd : D → Option ι) (ft : ι → M Bool) (fe : ι → M D) : List D → List D → M (List D)
  | [], acc => M.pure acc
  | d :: r, acc => M.bind (mTurn bnd ft fe d) fun o => mComp bnd ft fe r (acc ++ o.toList)
def yes {ι : Type} : ι → M Bool := fun _ => M.pure true
def lim (l : List D) : M (List D) := if l.length ≤ 1000000 then M.pure l else M.stuck
section
variable {ι : Type} {Z : Fx} {Ex : XK} {X : Cx} {Γ : List Slot} {tg iter elt : Expr} {pos : Pos} {ix : List Nat} {g : TG} {bnd : D → Option ι} {up : ι → List Slot → List Slot}
theorem ts_nil {m : ι → M Bool} {x : ι} : PTs X [] (rdT Z Ex Γ (yes x)) := ⟨fun pins s σ H Q I ⟨P, s', G, o, q⟩ => pts_nil.run pins s σ H Q I (Post.pure q o)⟩
theorem pts_any {κ : Type} {ifs : List Expr} {t : κ → TT} (h : ∀ i, PTs X ifs (t i)) : PTs X ifs (fun σ H Q => ∃ i, t i σ H Q) := ⟨fun pins s σ H Q I ⟨i, q⟩ => (h i).run pins s σ H Q I q⟩
theorem ts_one {c : Expr} {m : M Bool} (h : PT X c (rdT Z Ex Γ m)) : PTs X [c] (rdT Z Ex Γ m) := pts_one h
theorem stepI {β : Type} {P : Par} {G H : Hp} {s : List D} {σ : L2.St} {m : M (List D)} {k : List D → M β} {K : β → List D → Hp → Hp → Prop} {C : It → Hp → Prop} (o : Ok Z P Γ s σ G H) (h : Post Z Ex P Γ σ G (M.bind m k s) K)
    (c : ∀ J l s1 G1 H1, Same G G1 → Ok Z P Γ s1 σ G1 H1 → IterOk Z J G1 l → Post Z Ex P Γ σ G1 (k l s1) K → C J H1) : rdI Z Ex Γ m σ H C :=
  ⟨P, s, G, o, (Post.bind h).mono fun l s1 G1 H1 g o1 q J it => c J l s1 G1 H1 g o1 it q⟩
theorem mComp_len {ft : ι → M Bool} {fe : ι → M D} : ∀ {l acc : List D} {s s' : List D} {r : List D}, mComp bnd ft fe l acc s = .ok (r, s') → acc.length ≤ r.length ∧ r.length ≤ acc.length + l.length
  | [], acc, s, s', r, h => by
    cases h
    simp
  | d :: l, acc, s, s', r, h => by
    unfold mComp M.bind at h
    split at h
    · rename_i o s1 e
      have := mComp_len h
      rw [List.length_append] at this
      have h1 : o.toList.length ≤ 1 := by cases o <;> simp
      simp only [List.length_cons]
      omega
    · cases h
    · cases h
theorem mTurn_ok {ft : ι → M Bool} {fe : ι → M D} {d : D} {s s3 : List D} {o : Option D} (h : mTurn bnd ft fe d s = .ok (o, s3)) : ∃ x b s4, bnd d = some x ∧ ft x s = .ok (b, s4) ∧ ((b = false ∧ o = none ∧ s3 = s4) ∨ (b = true ∧ ∃ y, o = some y ∧ fe x s4 = .ok (y, s3))) := by
  unfold mTurn M.nox at h
  split at h
  · rename_i r e
    cases h
    cases eb : bnd d with
    | none => rw [eb] at e; cases e
    | some x =>
      rw [eb] at e
      have e : (M.bind (ft x) fun t => if t then M.bind (fe x) fun y => M.pure (some y) else M.pure none) s = .ok (o, s3) := e
      unfold M.bind at e
      cases e1 : ft x s with
      | exn => rw [e1] at e; cases e
      | stuck => rw [e1] at e; cases e
      | ok r =>
        obtain ⟨b, s4⟩ := r
        rw [e1] at e
        cases b with
        | false =>
          cases e
          exact ⟨x, false, _, rfl, e1, .inl ⟨rfl, rfl, rfl⟩⟩
        | true =>
          simp only [↓reduceIte] at e
          cases e2 : fe x s4 with
          | exn => rw [e2] at e; cases e
          | stuck => rw [e2] at e; cases e
          | ok r =>
            obtain ⟨y, s5⟩ := r
            rw [e2] at e
            cases e
            exact ⟨x, true, s4, rfl, e1, .inr ⟨rfl, y, rfl, e2⟩⟩
  · cases h
theorem wipe_comm {i : Nat} : ∀ (vs : List Nat) (σ : L2.St), wipe (σ.set i none) vs = (wipe σ vs).set i none
  | [], σ => rfl
  | j :: vs, σ => by
    show (wipe (σ.set i none) vs).set j none = ((wipe σ vs).set j none).set i none
    rw [wipe_comm vs σ]
    by_cases h : i = j
    · subst h; rfl
    · rw [List.set_comm _ _ h]
theorem wipe_idem : ∀ (vs : List Nat) {σ : L2.St}, wipe (wipe σ vs) vs = wipe σ vs
  | [], σ => rfl
  | j :: vs, σ => by
    show (wipe ((wipe σ vs).set j none) vs).set j none = (wipe σ vs).set j none
    rw [wipe_comm, List.set_set, wipe_idem vs]
theorem comp_core {P : Par} {G1 H1 : Hp} {σ : L2.St} {s1 : List D} {l : List D} {J : It} {ft : ι → M Bool} {fe : ι → M D} {vs : List Nat} {Q : VK} (hup : TgUp Z.K g vs bnd up) (o1 : Ok Z P Γ s1 σ G1 H1) (it : IterOk Z J G1 l) (hl : l.length ≤ 1000000)
    (q2 : Post Z Ex P Γ σ G1 (mComp bnd ft fe l [] s1) fun l _ G' H' => ∀ p vs, H' p = none → Rps Z.K G' vs l → Q (.ref p) (upd H' p (.lst vs))) (D : Addr) (hD : H1 D = none) :
    ∃ W : Nat → Nat → Hp → Prop, (∃ m, W 0 m (upd H1 D (.lst []))) ∧ ∀ i m H, W i m H →
  (J.stop i H ∧ Q (.ref D) H) ∨ (J.go i H ∧ ∃ Nx : Hp → Prop, (∀ H', Nx H' → ∃ m', m' < m ∧ W (i + 1) m' H') ∧ ∀ x H', J.yld i H x H' → g x (wipe σ vs) H' fun σ2 H2 => wipe σ2 vs = wipe σ vs ∧ (∃ x, rdT Z XF (up x (wipeS Γ vs)) (ft x) σ2 H2 fun b H3 =>
    if b = true then ∃ x, rdE Z XF (up x (wipeS Γ vs)) (fe x) σ2 H3 fun y H4 => ∃ acc, H4 D = some (.lst acc) ∧ acc.length < sizeLine ∧ Nx (upd H4 D (.lst (acc ++ [y]))) else Nx H3)) := by
  have heD : P.No D := o1.base.free hD
  refine ⟨fun i m H' => m = l.length - i ∧ i ≤ l.length ∧ ∃ acc s' G', Same G1 G' ∧ Ok Z P (.own acc :: Γ) s' (some (.ref D) :: σ) G' H' ∧ acc.length ≤ i ∧ Post Z Ex P Γ σ G' (mComp bnd ft fe (l.drop i) acc s') fun l _ G' H' => ∀ p vs, H' p = none → Rps Z.K G' vs l → Q (.ref p) (upd H' p (.lst vs)), ⟨_, rfl, Nat.zero_le _, [], s1, G1, Same.refl _, o1.cons hD .nil, Nat.le_refl _, q2⟩, ?_⟩
  rintro i m H' ⟨rfl, hi', acc, s', G', g', o', ha, q'⟩
  by_cases hlt : i < l.length
  · refine .inr ⟨it.go i H' (g'.trans o'.base.gh) hlt, fun H2 => ∃ acc s' G', Same G1 G' ∧ Ok Z P (.own acc :: Γ) s' (some (.ref D) :: σ) G' H2 ∧ acc.length ≤ i + 1 ∧ Post Z Ex P Γ σ G' (mComp bnd ft fe (l.drop (i + 1)) acc s') fun l _ G' H' => ∀ p vs, H' p = none → Rps Z.K G' vs l → Q (.ref p) (upd H' p (.lst vs)), fun H2 h => ⟨_, by omega, rfl, hlt, h⟩, fun x H2 y => ?_⟩
    rw [List.drop_eq_getElem_cons hlt] at q'
    obtain ⟨G2, lv, hd⟩ := it.yld i H' x H2 G' g' o'.base.gh y
    have rd := hd l[i] (by simp)
    have Og := o'.leave lv
    have q3 := q'.grow lv.g
    unfold mComp at q3
    cases e0 : mTurn bnd ft fe l[i] s' with
    | exn x => unfold mTurn M.nox at e0; split at e0 <;> cases e0
    | stuck => unfold M.bind at q3; rw [e0] at q3; exact q3.elim
    | ok r =>
      obtain ⟨oo, s3⟩ := r
      unfold M.bind at q3
      rw [e0] at q3
      obtain ⟨x', b, s4, eb, e1, e2⟩ := mTurn_ok e0
      have Ow := (Og.tail.wipe vs).here
      refine hup.ok Z _ _ s' _ G2 H2 x l[i] x' _ rfl Ow rd eb fun σ' o3 hw => ⟨(hw _ fun i h => h).trans (wipe_idem vs), x', _, s', G2, o3, ?_⟩
      rw [e1]
      intro G4 H4 g4 o4
      have O4 := Og.leaveT (s' := s4) o4.base.lv o4.thr
      rcases e2 with ⟨rfl, rfl, rfl⟩ | ⟨rfl, yy, rfl, e2⟩
      · refine iteF ⟨acc, s3, G4, (g'.trans lv.g).trans g4, O4, by omega, ?_⟩
        simpa using q3.grow g4
      · refine iteT ⟨x', _, s4, G4, o4, ?_⟩
        rw [e2]
        intro G5 H5 g5 o5 v rv
        have O5 := Og.leaveT (s' := s3) o5.base.lv o5.thr
        obtain ⟨p, ws, c1, c2, c3, c4⟩ := O5.changeE (i := 0) rfl (fun p _ e => by cases e; exact heD)
        cases c1
        refine ⟨ws, c2, ?_, acc ++ [yy], s3, G5, ((g'.trans lv.g).trans g4).trans g5, c4 _ _ (c3.append (.cons rv .nil)), by simp; omega, q3.grow (g4.trans g5)⟩
        rw [c3.length, sizeLine_eq]
        omega
  · have e : i = l.length := by omega
    subst e
    rw [List.drop_length] at q'
    refine .inl ⟨it.stop H' (g'.trans o'.base.gh), ?_⟩
    obtain ⟨p, ws, e1, e2, e3, e4, o2⟩ := o'.delAt (i := 0) rfl (fun p e => by cases e; exact heD)
    cases e1
    have := Post.pure (a := acc) q' o2.tail D ws del_same e3
    rw [del_upd e2] at this
    exact this
theorem l_comp {mi : M (List D)} {ft : ι → M Bool} {fe : ι → M D} {ifs : List Expr} {scope : Scope} {own : List (Str × Nat)} [ck : Cok Z X] (hi : PI X tg iter (rdI Z Ex Γ mi)) (ok : BlkOk X.N X.env.scope scope own)
    (hg : ∀ (s : Shared) (H : Hp) (C : Addr) (cl : List (Str × Addr)) (fp : List Addr), PG (X.blk s H scope (compEnvC scope cl C X.env) fp) tg g) (ht : TgUp X.K g (own.map (·.2)) bnd up)
    (hts : ∀ (s : Shared) (H : Hp) (C : Addr) (cl : List (Str × Addr)) (fp : List Addr) (x : ι), PTs (X.blk s H scope (compEnvC scope cl C X.env) fp) ifs (rdT Z XF (up x (wipeS Γ (own.map (·.2)))) (ft x)))
    (he : ∀ (s : Shared) (H : Hp) (C : Addr) (cl : List (Str × Addr)) (fp : List Addr) (x : ι), PE (X.blk s H scope (compEnvC scope cl C X.env) fp) elt (rdE Z XF (up x (wipeS Γ (own.map (·.2)))) (fe x)))
    (hs : ∀ x, foldedSetIterable iter X.env x = pure x := by intro _; rfl) :
    PE X (.ListComp elt [⟨tg, iter, ifs, 0⟩] scope pos) (rdL Z Ex Γ (M.bind mi fun l => M.bind (lim l) fun l => mComp bnd ft fe l [])) := by
  rw [ck.K] at ht
  refine pe_imp (pe_lc (g := g) ck.calm ck.nd hi ok hg (fun s H C cl fp => pts_any (hts s H C cl fp)) (fun s H C cl fp => pe_any (he s H C cl fp)) hs) fun σ H Q ⟨P, s, G, o, q⟩ => ?_
  refine stepI o q fun J l s1 G1 H1 g1 o1 it q1 => fun D hD => ?_
  have hl : l.length ≤ 1000000 := by
    unfold lim at q1
    split at q1
    · assumption
    · exact q1.elim
  unfold lim at q1
  rw [if_pos hl] at q1
  exact comp_core ht o1 it hl q1 D hD
end
end Sim
end
section
set_option Elab.async false
set_option linter.all false
set_option maxRecDepth 100000
set_option maxHeartbeats 400000
namespace Sim
open PySem PySem.Spec PyProof.Rows L2
def retD {γ α : Type} (m : M (Out γ α)) : M D := M.bind m fun o => match o with
  | .ret d => M.pure d
  | .nx _ => M.pure .none
  | _ => M.stuck
def retLst {γ α : Type} (m : M (Out γ α)) : M (List D) := M.bind m fun o => match o with
  | .retL l => M.pure l
  | _ => M.stuck
@[simp] theorem retD_ret {γ α : Type} (d : D) : retD (M.pure (.ret d) : M (Out γ α)) = M.pure d := rfl
@[simp] theorem retD_nx {γ α : Type} (d : γ) : retD (M.pure (.nx d) : M (Out γ α)) = M.pure .none := rfl
@[simp] theorem retD_raise {γ α : Type} (x : Exn) : retD (M.raise x : M (Out γ α)) = M.raise x := rfl
@[simp] theorem retD_stuck {γ α : Type} : retD (M.stuck : M (Out γ α)) = M.stuck := rfl
@[simp] theorem retD_bind {γ α β : Type} (m : M β) (f : β → M (Out γ α)) : retD (M.bind m f) = M.bind m fun x => retD (f x) := M.bind_assoc _ _ _
@[simp] theorem retLst_retL {γ α : Type} (d : List D) : retLst (M.pure (.retL d) : M (Out γ α)) = M.pure d := rfl
@[simp] theorem retLst_raise {γ α : Type} (x : Exn) : retLst (M.raise x : M (Out γ α)) = M.raise x := rfl
@[simp] theorem retLst_stuck {γ α : Type} : retLst (M.stuck : M (Out γ α)) = M.stuck := rfl
@[simp] theorem retLst_bind {γ α β : Type} (m : M β) (f : β → M (Out γ α)) : retLst (M.bind m f) = M.bind m fun x => retLst (f x) := M.bind_assoc _ _ _
/-! ### promises -/
/-- a def that hands back a datum (or raises) -/
def spP (Z : Fx) (n : Nat) (m : List D → M D) : Sp := fun vs H Q E => vs.length = n ∧ LamX.Tabs Z.T H ∧ ∃ G ds, Sv G H ∧ Rps Z.K G vs ds ∧
  (m ds []).post (fun r => ∀ v G' H', Leave Z none G H G' H' → Rp Z.K G' v r.1 → Q v H') (fun x => ∀ cls dx G' H', Leave Z none G H G' H' → ExnRep Z (fun d => ∀ o, H d = some o → ¬ NT o) G' H' x cls dx → E cls dx H')
/-- a def that hands back a new list (or raises) -/
def spL (Z : Fx) (n : Nat) (m : List D → M (List D)) : Sp := fun vs H Q E => vs.length = n ∧ LamX.Tabs Z.T H ∧ ∃ G ds, Sv G H ∧ Rps Z.K G vs ds ∧
  (m ds []).post (fun r => ∀ p vs G' H', Leave Z none G H G' H' → H' p = none → Rps Z.K G' vs r.1 → Q (.ref p) (upd H' p (.lst vs))) (fun x => ∀ cls dx G' H', Leave Z none G H G' H' → ExnRep Z (fun d => ∀ o, H d = some o → ¬ NT o) G' H' x cls dx → E cls dx H')
/-- a def whose first argument is the threaded list -/
def spS (Z : Fx) (n : Nat) (m : List D → M D) : Sp := fun vs H Q _ => vs.length = n + 1 ∧ LamX.Tabs Z.T H ∧ ∃ G ds p vs' hs s, vs = .ref p :: vs' ∧ Sv G H ∧ Rps Z.K G vs' ds ∧ G p = none ∧ H p = some (.lst hs) ∧ Rps Z.K G hs s ∧
  (m ds s).post (fun r => ∀ v G' H', Leave Z (some p) G H G' H' → G' p = none → (∃ hs', H' p = some (.lst hs') ∧ Rps Z.K G' hs' r.2) → Rp Z.K G' v r.1 → Q v H') (fun _ => False)
def spSL (Z : Fx) (n : Nat) (m : List D → M (List D)) : Sp := fun vs H Q _ => vs.length = n + 1 ∧ LamX.Tabs Z.T H ∧ ∃ G ds p vs' hs s, vs = .ref p :: vs' ∧ Sv G H ∧ Rps Z.K G vs' ds ∧ G p = none ∧ H p = some (.lst hs) ∧ Rps Z.K G hs s ∧
  (m ds s).post (fun r => ∀ q ws G' H', Leave Z (some p) G H G' H' → G' p = none → (∃ hs', H' p = some (.lst hs') ∧ Rps Z.K G' hs' r.2) → H' q = none → Rps Z.K G' ws r.1 → Q (.ref q) (upd H' q (.lst ws))) (fun _ => False)
section
variable {γ α : Type} {Z : Fx} {H : Hp} {vs : List V} {Q : VK} {E : XK} {n : Nat}
theorem slots_start (Z : Fx) (P : Par) {G H : Hp} : ∀ {vs : List V} {ds : List D} (k : Nat), Rps Z.K G vs ds → SlotsOk Z P G H (ds.map Slot.pur ++ List.replicate k .any) (vs.map some ++ List.replicate k none) []
  | _, _, 0, .nil => .nil
  | _, _, k + 1, .nil => .cons (fp := []) .any (slots_start Z P k .nil)
  | _, _, k, .cons a r => .cons (fp := []) (.pur a) (slots_start Z P k r)
/-- a body's reading from the promise -/
theorem body_P {N : List Str} {Γm : γ → List Slot} {Γn : α → List Slot} {mb : List D → M (Out γ α)} (h : spP Z n (fun ds => retD (mb ds)) vs H Q E) : ∃ ds, ds.length = n ∧ rdS Z E (ds.map Slot.pur ++ List.replicate (N.length - n) .any) Γm Γn (mb ds) { nx := fun _ H' => Q .non H', rt := Q } (start N vs) H := by
  obtain ⟨hl, tb, G, ds, g, r, q⟩ := h
  refine ⟨ds, r.length.symm.trans hl, ⟨G, H, fun b => ∃ o, H b = some o ∧ NT o, none⟩, [], G, fun b o h n => ⟨o, h, n⟩, ⟨⟨.refl g, fun b h => h, tb⟩, (fun p hp => (nomatch hp)), [], ?_, by simp⟩, ?_⟩
  · unfold L2.start
    rw [hl]
    exact slots_start Z _ _ r
  · change (retD (mb ds) []).post _ _ at q
    unfold retD M.bind at q
    cases e : mb ds [] with
    | stuck => rw [e] at q; exact q.elim
    | exn x =>
      rw [e] at q
      exact fun cls dx G' H' g' b x' => q cls dx G' H' b.lv x'
    | ok o =>
      rw [e] at q
      obtain ⟨o, s'⟩ := o
      cases o with
      | ret d => exact fun v G' H' g' b t r => q v G' H' b.lv r
      | nx a => exact fun σ' G' H' g' o => q .non G' H' o.base.lv .non
      | retL l => exact q.elim
      | brk a => exact q.elim
      | cnt a => exact q.elim
theorem body_L {N : List Str} {Γm : γ → List Slot} {Γn : α → List Slot} {mb : List D → M (Out γ α)} (h : spL Z n (fun ds => retLst (mb ds)) vs H Q E) : ∃ ds, ds.length = n ∧ rdS Z E (ds.map Slot.pur ++ List.replicate (N.length - n) .any) Γm Γn (mb ds) { nx := fun _ H' => Q .non H', rt := Q } (start N vs) H := by
  obtain ⟨hl, tb, G, ds, g, r, q⟩ := h
  refine ⟨ds, r.length.symm.trans hl, ⟨G, H, fun b => ∃ o, H b = some o ∧ NT o, none⟩, [], G, fun b o h n => ⟨o, h, n⟩, ⟨⟨.refl g, fun b h => h, tb⟩, (fun p hp => (nomatch hp)), [], ?_, by simp⟩, ?_⟩
  · unfold L2.start
    rw [hl]
    exact slots_start Z _ _ r
  · change (retLst (mb ds) []).post _ _ at q
    unfold retLst M.bind at q
    cases e : mb ds [] with
    | stuck => rw [e] at q; exact q.elim
    | exn x =>
      rw [e] at q
      exact fun cls dx G' H' g' b x' => q cls dx G' H' b.lv x'
    | ok o =>
      rw [e] at q
      obtain ⟨o, s'⟩ := o
      cases o with
      | retL d => exact fun p vs G' H' g' b t hp r => q p vs G' H' b.lv hp r
      | nx a => exact q.elim
      | ret l => exact q.elim
      | brk a => exact q.elim
      | cnt a => exact q.elim
theorem body_S {N : List Str} {Γm : γ → List Slot} {Γn : α → List Slot} {mb : List D → M (Out γ α)} (h : spS Z n (fun ds => retD (mb ds)) vs H Q E) : ∃ ds, ds.length = n ∧ rdS Z XF (.thr :: ds.map Slot.pur ++ List.replicate (N.length - (n + 1)) .any) Γm Γn (mb ds) { nx := fun _ H' => Q .non H', rt := Q } (start N vs) H := by
  obtain ⟨hl, tb, G, ds, p, vs', hs, s, rfl, g, r, gp, hp, rs, q⟩ := h
  have hl' : vs'.length = n := by simpa using hl
  refine ⟨ds, r.length.symm.trans hl', ⟨G, H, fun b => ∃ o, H b = some o ∧ NT o, some p⟩, s, G, fun b o h n => ⟨o, h, n⟩, ⟨⟨.refl g, fun b h => h, tb⟩, (fun p' hp' => by cases hp'; exact ⟨gp, hs, hp, rs⟩), [], ?_, by simp⟩, ?_⟩
  · unfold L2.start
    rw [hl]
    exact SlotsOk.cons (fp := []) (.thr rfl) (slots_start Z _ _ r)
  · change (retD (mb ds) s).post _ _ at q
    unfold retD M.bind at q
    cases e : mb ds s with
    | stuck => rw [e] at q; exact q.elim
    | exn x => rw [e] at q; exact q.elim
    | ok o =>
      rw [e] at q
      obtain ⟨o, s'⟩ := o
      cases o with
      | ret d => exact fun v G' H' g' b t r => q v G' H' b.lv (t p rfl).1 (t p rfl).2 r
      | nx a => exact fun σ' G' H' g' o => q .non G' H' o.base.lv (o.thr p rfl).1 (o.thr p rfl).2 .non
      | retL l => exact q.elim
      | brk a => exact q.elim
      | cnt a => exact q.elim
theorem body_SL {N : List Str} {Γm : γ → List Slot} {Γn : α → List Slot} {mb : List D → M (Out γ α)} (h : spSL Z n (fun ds => retLst (mb ds)) vs H Q E) : ∃ ds, ds.length = n ∧ rdS Z XF (.thr :: ds.map Slot.pur ++ List.replicate (N.length - (n + 1)) .any) Γm Γn (mb ds) { nx := fun _ H' => Q .non H', rt := Q } (start N vs) H := by
  obtain ⟨hl, tb, G, ds, p, vs', hs, s, rfl, g, r, gp, hp, rs, q⟩ := h
  have hl' : vs'.length = n := by simpa using hl
  refine ⟨ds, r.length.symm.trans hl', ⟨G, H, fun b => ∃ o, H b = some o ∧ NT o, some p⟩, s, G, fun b o h n => ⟨o, h, n⟩, ⟨⟨.refl g, fun b h => h, tb⟩, (fun p' hp' => by cases hp'; exact ⟨gp, hs, hp, rs⟩), [], ?_, by simp⟩, ?_⟩
  · unfold L2.start
    rw [hl]
    exact SlotsOk.cons (fp := []) (.thr rfl) (slots_start Z _ _ r)
  · change (retLst (mb ds) s).post _ _ at q
    unfold retLst M.bind at q
    cases e : mb ds s with
    | stuck => rw [e] at q; exact q.elim
    | exn x => rw [e] at q; exact q.elim
    | ok o =>
      rw [e] at q
      obtain ⟨o, s'⟩ := o
      cases o with
      | retL d => exact fun p' vs G' H' g' b t hp' r => q p' vs G' H' b.lv (t p rfl).1 (t p rfl).2 hp' r
      | nx a => exact q.elim
      | ret l => exact q.elim
      | brk a => exact q.elim
      | cnt a => exact q.elim
end
/-! ### a def keeps its promise -/
section
variable {γ α : Type} {P : Program} {w : World} {K : PySem.W.Frag} {mg : Str → Option Value} {base : Heap} {T : List (Addr × Str)} {x qual : Str} {params : Arguments} {body : List Stmt} {scope : Scope} {f : Addr} {fd : FuncData} {N ps : List Str} {k n : Nat} {Γm : γ → List Slot} {Γn : α → List Slot}
abbrev FD (K : PySem.W.Frag) (x qual : Str) (st : Stmt) (f : Addr) (fd : FuncData) : Prop := FunD K x qual (defArgs st) (defBody st) (defScope st) [] [] f fd
theorem cok_def {E : XK} {cdv : Value} {A : Around} {outer : List Env} {s : Shared} {H : Hp} (hN : N.Nodup) (hr : Room k (A.deeper (envOfC qual scope s.heap.objs.size f cdv))) : Cok ⟨K, mg, T⟩ (cxOf (L2.CX P w) P w K mg base N qual scope f cdv A outer s H E) :=
  { K := rfl, mg := rfl, nd := hN, calm := rfl, hu := by
      have := hr.un
      show (A.deeper (envOfC qual scope s.heap.objs.size f cdv)).units + 66 < cLine
      omega }
instance {E : XK} {cdv : Value} {A : Around} {outer : List Env} {s : Shared} {H : Hp} : Eok E (cxOf (L2.CX P w) P w K mg base N qual scope f cdv A outer s H E) :=
  ⟨passes_call (takes_of rfl rfl rfl rfl) fun _ _ _ _ h => h, takes_of rfl rfl rfl rfl, passes_of rfl⟩
theorem fun_P {mb : List D → M (Out γ α)} (F : FunD K x qual params body scope [] [] f fd) (S : FnScope N ps scope) (hn : ps.length = n)
    (hb : ∀ (ds : List D) (cdv : Value) (A : Around) (outer : List Env) (s : Shared) (H : Hp) (E : XK), ds.length = n → Room k (A.deeper (envOfC qual scope s.heap.objs.size f cdv)) → Cok ⟨K, mg, T⟩ (cxOf (L2.CX P w) P w K mg base N qual scope f cdv A outer s H E) →
      PSs (cxOf (L2.CX P w) P w K mg base N qual scope f cdv A outer s H E) body (rdS ⟨K, mg, T⟩ E (ds.map Slot.pur ++ List.replicate (N.length - n) .any) Γm Γn (mb ds))) :
    FnOk P w K mg base (L2.CX P w) (k + 1) f fd ps (spP ⟨K, mg, T⟩ n fun ds => retD (mb ds)) :=
  F.ok S (fun vs H Q E h => h.1.trans hn.symm) fun cdv A outer s H vs Q E hr h => by
    obtain ⟨ds, hl, q⟩ := body_P (N := N) (Γm := Γm) (Γn := Γn) h
    exact ⟨_, hb ds cdv A outer s H E hl hr (cok_def S.nd hr), q⟩
theorem fun_L {mb : List D → M (Out γ α)} (F : FunD K x qual params body scope [] [] f fd) (S : FnScope N ps scope) (hn : ps.length = n)
    (hb : ∀ (ds : List D) (cdv : Value) (A : Around) (outer : List Env) (s : Shared) (H : Hp) (E : XK), ds.length = n → Room k (A.deeper (envOfC qual scope s.heap.objs.size f cdv)) → Cok ⟨K, mg, T⟩ (cxOf (L2.CX P w) P w K mg base N qual scope f cdv A outer s H E) →
      PSs (cxOf (L2.CX P w) P w K mg base N qual scope f cdv A outer s H E) body (rdS ⟨K, mg, T⟩ E (ds.map Slot.pur ++ List.replicate (N.length - n) .any) Γm Γn (mb ds))) :
    FnOk P w K mg base (L2.CX P w) (k + 1) f fd ps (spL ⟨K, mg, T⟩ n fun ds => retLst (mb ds)) :=
  F.ok S (fun vs H Q E h => h.1.trans hn.symm) fun cdv A outer s H vs Q E hr h => by
    obtain ⟨ds, hl, q⟩ := body_L (N := N) (Γm := Γm) (Γn := Γn) h
    exact ⟨_, hb ds cdv A outer s H E hl hr (cok_def S.nd hr), q⟩
theorem eok_XF {X : Cx} {E : XK} [e : Eok E X] : Eok XF X := ⟨passL, takes0, e.own⟩
theorem fun_S {mb : List D → M (Out γ α)} (F : FunD K x qual params body scope [] [] f fd) (S : FnScope N ps scope) (hn : ps.length = n + 1)
    (hb : ∀ (ds : List D) (cdv : Value) (A : Around) (outer : List Env) (s : Shared) (H : Hp) (E : XK), ds.length = n → Room k (A.deeper (envOfC qual scope s.heap.objs.size f cdv)) → Cok ⟨K, mg, T⟩ (cxOf (L2.CX P w) P w K mg base N qual scope f cdv A outer s H E) → Eok XF (cxOf (L2.CX P w) P w K mg base N qual scope f cdv A outer s H E) →
      PSs (cxOf (L2.CX P w) P w K mg base N qual scope f cdv A outer s H E) body (rdS ⟨K, mg, T⟩ XF (.thr :: ds.map Slot.pur ++ List.replicate (N.length - (n + 1)) .any) Γm Γn (mb ds))) :
    FnOk P w K mg base (L2.CX P w) (k + 1) f fd ps (spS ⟨K, mg, T⟩ n fun ds => retD (mb ds)) :=
  F.ok S (fun vs H Q E h => h.1.trans hn.symm) fun cdv A outer s H vs Q E hr h => by
    obtain ⟨ds, hl, q⟩ := body_S (N := N) (Γm := Γm) (Γn := Γn) h
    exact ⟨_, hb ds cdv A outer s H E hl hr (cok_def S.nd hr) (eok_XF (E := E)), q⟩
theorem fun_SL {mb : List D → M (Out γ α)} (F : FunD K x qual params body scope [] [] f fd) (S : FnScope N ps scope) (hn : ps.length = n + 1)
    (hb : ∀ (ds : List D) (cdv : Value) (A : Around) (outer : List Env) (s : Shared) (H : Hp) (E : XK), ds.length = n → Room k (A.deeper (envOfC qual scope s.heap.objs.size f cdv)) → Cok ⟨K, mg, T⟩ (cxOf (L2.CX P w) P w K mg base N qual scope f cdv A outer s H E) → Eok XF (cxOf (L2.CX P w) P w K mg base N qual scope f cdv A outer s H E) →
      PSs (cxOf (L2.CX P w) P w K mg base N qual scope f cdv A outer s H E) body (rdS ⟨K, mg, T⟩ XF (.thr :: ds.map Slot.pur ++ List.replicate (N.length - (n + 1)) .any) Γm Γn (mb ds))) :
    FnOk P w K mg base (L2.CX P w) (k + 1) f fd ps (spSL ⟨K, mg, T⟩ n fun ds => retLst (mb ds)) :=
  F.ok S (fun vs H Q E h => h.1.trans hn.symm) fun cdv A outer s H vs Q E hr h => by
    obtain ⟨ds, hl, q⟩ := body_SL (N := N) (Γm := Γm) (Γn := Γn) h
    exact ⟨_, hb ds cdv A outer s H E hl hr (cok_def S.nd hr) (eok_XF (E := E)), q⟩
end
/-! ### calls of defs -/
section
variable {Z : Fx} {Ex : XK} {X : Cx} {Γ : List Slot} {a e : Expr} {es : List Expr} {ms : M (List D)} {m : List D → M D} {ml : List D → M (List D)} {pos p : Pos} {x : Str} {f : Addr} {fd : FuncData} {ps : List Str} {k n : Nat}
theorem Post.call {β : Type} {P : Par} {G H : Hp} {s : List D} {σ : L2.St} {m : M β} {K : β → List D → Hp → Hp → Prop} (o : Ok Z P Γ s σ G H) (q : Post Z Ex P Γ σ G (M.pur m s) K) :
    (m []).post (fun r => ∀ G' H', Leave Z none G H G' H' → Ok Z P Γ s σ G' H' → K r.1 s G' H') (fun x => ∀ cls dx G' H', Leave Z none G H G' H' → ExnRep Z (fun d => ∀ o, H d = some o → ¬ NT o) G' H' x cls dx → Ex cls dx H') := by
  unfold M.pur at q
  cases e : m [] with
  | ok r => rw [e] at q; exact fun G' H' l o' => q G' H' l.g o'
  | exn y =>
    rw [e] at q
    exact fun cls dx G' H' l er => q cls dx G' H' l.g (o.leave l).base (er.back o.base)
  | stuck => rw [e] at q; exact q.elim
theorem e_call [ck : Cok0 Z X] [ek : Eok Ex X] (F : FnOk X.prog X.w X.K X.mg X.base (L2.CX X.prog X.w) k f fd ps (spP Z n m)) (hr : Room k X.A) (hm : Z.mg x = some (.ref f)) (hk : PySem.W.keepIn Z.K (.ref f) = true) (hb : Binds Z.K fd ps [])
    (ha : PA X (a :: es) (rdA Z Ex Γ ms)) (hl : (a :: es).length = n := by rfl) (hg : Gl X x := by rfl) (hdb : (x == ("__debug__" : Str)) = false := by decide) (he : starEach (a :: es) X.env = (false, eval a X.env) :: starEach es X.env := by rfl) (hpl : (backTo pos (starEach es X.env)).any (·.1) = false := by rfl) :
    PE X (.Call (.Name x p) (a :: es) [] pos) (rdE Z Ex Γ (M.bind ms fun ds => if ds.length = n then M.pur (m ds) else M.stuck)) :=
  pe_imp (pe_call F hr hg (by rw [ck.mg]; exact hm) (by rw [ck.K]; exact hk) (by rw [ck.K]; exact hb) (dvs := []) .nil ek.pass ha hdb he hpl) fun σ H Q ⟨P, s, G, o, q⟩ => stepA o q fun vs ds s1 G1 H1 g o1 r1 q1 => by
    by_cases hn : ds.length = n
    · rw [if_pos hn] at q1
      rw [List.append_nil]
      have q2 := Post.call o1 q1
      exact ⟨r1.length.trans hn, o1.base.tabs, G1, ds, o1.base.gh, r1, R.post_mono q2 (fun r h v G' H' l rv => h G' H' l (o1.leave l) v rv) fun x h => h⟩
    · rw [if_neg hn] at q1
      exact q1.elim
theorem l_call [ck : Cok0 Z X] [ek : Eok Ex X] (F : FnOk X.prog X.w X.K X.mg X.base (L2.CX X.prog X.w) k f fd ps (spL Z n ml)) (hr : Room k X.A) (hm : Z.mg x = some (.ref f)) (hk : PySem.W.keepIn Z.K (.ref f) = true) (hb : Binds Z.K fd ps [])
    (ha : PA X (a :: es) (rdA Z Ex Γ ms)) (hl : (a :: es).length = n := by rfl) (hg : Gl X x := by rfl) (hdb : (x == ("__debug__" : Str)) = false := by decide) (he : starEach (a :: es) X.env = (false, eval a X.env) :: starEach es X.env := by rfl) (hpl : (backTo pos (starEach es X.env)).any (·.1) = false := by rfl) :
    PE X (.Call (.Name x p) (a :: es) [] pos) (rdL Z Ex Γ (M.bind ms fun ds => if ds.length = n then M.pur (ml ds) else M.stuck)) :=
  pe_imp (pe_call F hr hg (by rw [ck.mg]; exact hm) (by rw [ck.K]; exact hk) (by rw [ck.K]; exact hb) (dvs := []) .nil ek.pass ha hdb he hpl) fun σ H Q ⟨P, s, G, o, q⟩ => stepA o q fun vs ds s1 G1 H1 g o1 r1 q1 => by
    by_cases hn : ds.length = n
    · rw [if_pos hn] at q1
      rw [List.append_nil]
      have q2 := Post.call o1 q1
      exact ⟨r1.length.trans hn, o1.base.tabs, G1, ds, o1.base.gh, r1, R.post_mono q2 (fun r h p vs G' H' l hp rv => h G' H' l (o1.leave l) p vs hp rv) fun x h => h⟩
    · rw [if_neg hn] at q1
      exact q1.elim
/-- f(hand, ..): the threaded list first, in slot i -/
theorem e_callS (i : Nat) {y : Str} {py : Pos} [ck : Cok0 Z X] [ek : Eok XF X] (F : FnOk X.prog X.w X.K X.mg X.base (L2.CX X.prog X.w) k f fd ps (spS Z n m)) (hr : Room k X.A) (hm : Z.mg x = some (.ref f)) (hk : PySem.W.keepIn Z.K (.ref f) = true) (hb : Binds Z.K fd ps [])
    (hG : Γ[i]? = some .thr) (hv : PE X (.Name y py) (tVar i)) (ha : PA X es (rdA Z Ex Γ ms)) (hl : es.length = n := by rfl) (hg : Gl X x := by rfl) (hdb : (x == ("__debug__" : Str)) = false := by decide) (he : starEach (.Name y py :: es) X.env = (false, eval (.Name y py) X.env) :: starEach es X.env := by rfl) (hpl : (backTo pos (starEach es X.env)).any (·.1) = false := by rfl) :
    PE X (.Call (.Name x p) (.Name y py :: es) [] pos) (rdE Z Ex Γ (M.bind ms fun ds => if ds.length = n then M.nox (m ds) else M.stuck)) :=
  pe_imp (pe_call F hr hg (by rw [ck.mg]; exact hm) (by rw [ck.K]; exact hk) (by rw [ck.K]; exact hb) (dvs := []) .nil ek.pass (pa_cons hv ha he) hdb he hpl) fun σ H Q ⟨P, s, G, o, q⟩ => by
    obtain ⟨p, hs, e0, e1, gp, hp, rs, c⟩ := o.thread hG
    refine ⟨.ref p, e0, stepA o q fun vs ds s1 G1 H1 g o1 r1 q1 => ?_⟩
    by_cases hn : ds.length = n
    · rw [if_pos hn] at q1
      show spS Z n m ((.ref p :: vs) ++ []) H1 Q XF
      rw [List.append_nil]
      obtain ⟨g1, hs1, hp1, rs1⟩ := o1.thr p e1
      refine ⟨by simp [r1.length, hn], o1.base.tabs, G1, ds, p, vs, hs1, s1, rfl, o1.base.gh, r1, g1, hp1, rs1, ?_⟩
      unfold M.nox at q1
      cases e : m ds s1 with
      | ok r =>
        rw [e] at q1
        intro v G' H' l gp' hs' rv
        refine q1 G' H' l.g (o1.leaveT (by rw [e1]; exact l) fun p' hp' => ?_) v rv
        rw [e1] at hp'
        cases hp'
        exact ⟨gp', hs'⟩
      | exn x => rw [e] at q1; exact q1.elim
      | stuck => rw [e] at q1; exact q1.elim
    · rw [if_neg hn] at q1
      exact q1.elim
theorem l_callS (i : Nat) {y : Str} {py : Pos} [ck : Cok0 Z X] [ek : Eok XF X] (F : FnOk X.prog X.w X.K X.mg X.base (L2.CX X.prog X.w) k f fd ps (spSL Z n ml)) (hr : Room k X.A) (hm : Z.mg x = some (.ref f)) (hk : PySem.W.keepIn Z.K (.ref f) = true) (hb : Binds Z.K fd ps [])
    (hG : Γ[i]? = some .thr) (hv : PE X (.Name y py) (tVar i)) (ha : PA X es (rdA Z Ex Γ ms)) (hl : es.length = n := by rfl) (hg : Gl X x := by rfl) (hdb : (x == ("__debug__" : Str)) = false := by decide) (he : starEach (.Name y py :: es) X.env = (false, eval (.Name y py) X.env) :: starEach es X.env := by rfl) (hpl : (backTo pos (starEach es X.env)).any (·.1) = false := by rfl) :
    PE X (.Call (.Name x p) (.Name y py :: es) [] pos) (rdL Z Ex Γ (M.bind ms fun ds => if ds.length = n then M.nox (ml ds) else M.stuck)) :=
  pe_imp (pe_call F hr hg (by rw [ck.mg]; exact hm) (by rw [ck.K]; exact hk) (by rw [ck.K]; exact hb) (dvs := []) .nil ek.pass (pa_cons hv ha he) hdb he hpl) fun σ H Q ⟨P, s, G, o, q⟩ => by
    obtain ⟨p, hs, e0, e1, gp, hp, rs, c⟩ := o.thread hG
    refine ⟨.ref p, e0, stepA o q fun vs ds s1 G1 H1 g o1 r1 q1 => ?_⟩
    by_cases hn : ds.length = n
    · rw [if_pos hn] at q1
      show spSL Z n ml ((.ref p :: vs) ++ []) H1 Q XF
      rw [List.append_nil]
      obtain ⟨g1, hs1, hp1, rs1⟩ := o1.thr p e1
      refine ⟨by simp [r1.length, hn], o1.base.tabs, G1, ds, p, vs, hs1, s1, rfl, o1.base.gh, r1, g1, hp1, rs1, ?_⟩
      unfold M.nox at q1
      cases e : ml ds s1 with
      | ok r =>
        rw [e] at q1
        intro q ws G' H' l gp' hs' hq rv
        refine q1 G' H' l.g (o1.leaveT (by rw [e1]; exact l) fun p' hp' => ?_) q ws hq rv
        rw [e1] at hp'
        cases hp'
        exact ⟨gp', hs'⟩
      | exn x => rw [e] at q1; exact q1.elim
      | stuck => rw [e] at q1; exact q1.elim
    · rw [if_neg hn] at q1
      exact q1.elim
end
end Sim
end
section
set_option Elab.async false
set_option linter.all false
set_option maxRecDepth 100000
set_option maxHeartbeats 400000
namespace Sim
open PySem PySem.Spec PyProof.Rows L2
abbrev veL : List Value := [.type "ValueError", .type "Exception", .type "BaseException", .type "object"]
/-- what the written part says of an own exception class without __init__ -/
structure ExcF (K : PySem.W.Frag) (mg : Str → Option Value) (x : Str) (C : Addr) : Prop where
  gC : mg x = some (.ref C)
  xC : PySem.W.excIn K C veL "ValueError.__new__" = true
  kC : PySem.W.keepIn K (.ref C) = true
  exC : PySem.W.subIn K (.ref C) (.type "BaseException") = some true
  tyC : PySem.W.typeIn K (.ref C) = some (.type "type")
section
variable {γ α : Type} {Z : Fx} {Ex : XK} {X : Cx} {Γ : List Slot} {Γm : γ → List Slot} {Γn : α → List Slot} {rest : List Stmt} {pos p pos2 : Pos} {x : Str} {C : Addr}
/-- X() -/
theorem pmk_own0 {bmB : List Value} {B newId initId : String} (F : ExcBaseFacts B newId initId bmB) (q : PySem.W.excIn X.K C bmB newId = true) (gC : X.mg x = some (.ref C)) (kC : PySem.W.keepIn X.K (.ref C) = true) (r : Raises X (.ref C)) (hg : Gl X x)
    (hdb : (x == ("__debug__" : Str)) = false := by decide) : PMk X (.Call (.Name x p) [] [] pos) (fun _ H Q => Q (.ref C) none H) := by
  intro pins s σ H Q I h
  refine wpAny_Call_Name_kw (ld_glob I hg gC ?_ hdb)
  refine PySem.W.callWith_K0 I.kIn kC ?_
  show wpAny _ _ (call (.ref C) []) _ _ _
  obtain ⟨bm, N, nm, qn, bs, hdct, sn, sub, ab, col, dd, k0, k1, k2, k3, k5, mN, hC, hN, hni, T⟩ := exc_obj I.kIn q
  refine wpAny_call_exc_subT F T hC hN hni (fun h' e hm => ?_) (by show 0 ≤ sizeLine; exact Nat.zero_le _)
  exact mk_of I hm r h (I.hok.gone hm.new)
/-- raise X() -/
theorem s_raise0 [ck : Cok Z X] [ek : Eok Ex X] (F : ExcF Z.K Z.mg x C) (hg : Gl X x := by rfl) (hdb : (x == ("__debug__" : Str)) = false := by decide) :
    PSs X (.Raise (some (.Call (.Name x p) [] [] pos)) none pos2 :: rest) (rdS Z Ex Γ Γm Γn (M.raise ⟨x, []⟩)) :=
  pss_imp (pss_cons (ps_raise ck.calm ek.takes (pmk_own0 PySem.F.excBase_ValueError (by rw [ck.K]; exact F.xC) (by rw [ck.mg]; exact F.gC) (by rw [ck.K]; exact F.kC) (raises_own (by rw [ck.K]; exact F.exC) (by rw [ck.K]; exact F.tyC)) hg hdb)) (pss_never (sts := rest))) fun Dn σ H ⟨P, s, G, hB, o, q⟩ =>
    q _ _ G H (Same.refl _) o.base ⟨C, F.gC, rfl, rfl⟩
/-- __init__ of an own exception: self.fld = fld -/
def spInit (C : Addr) (fld : Str) : Sp := fun vs H Q _ => ∃ a y, vs = [.ref a, y] ∧ H a = some (exo a C none) ∧ ∀ dx, H dx = none → dx ≠ a → Q .non (upd (upd H dx (exd dx [(fld, y)])) a (exo a C (some dx)))
/-- an own exception class with an __init__ that stores one field -/
structure OexF (P : Program) (w : World) (K : PySem.W.Frag) (mg : Str → Option Value) (base : Heap) (x fld : Str) (C : Addr) : Prop where
  gC : mg x = some (.ref C)
  T : OexC K C
  fn : ∃ fI fd ps, PySem.W.findIn K (.ref C) "__init__" = some (some (.ref fI)) ∧ PySem.W.typeIn K (.ref fI) = some (.type "function") ∧ FnOk P w K mg base (L2.CX P w) 1 fI fd ps (spInit C fld) ∧ Binds K fd ps []
theorem s_raise1 {fld : Str} {e : Expr} {me : M D} [ck : Cok Z X] [ek : Eok Ex X] (F : OexF X.prog X.w X.K X.mg X.base x fld C) (hr : Room 2 X.A) (he : PE X e (rdE Z Ex Γ me)) (hg : Gl X x := by rfl) (hdb : (x == ("__debug__" : Str)) = false := by decide)
    (hs : starEach (e :: []) X.env = (false, eval e X.env) :: starEach [] X.env := by rfl) (hpl : (backTo pos (starEach [] X.env)).any (·.1) = false := by rfl) :
    PSs X (.Raise (some (.Call (.Name x p) [e] [] pos)) none pos2 :: rest) (rdS Z Ex Γ Γm Γn (M.bind me fun d => M.raise ⟨x, [(fld, d)]⟩)) := by
  obtain ⟨fI, fd, ps, h1, h2, h3, h4⟩ := F.fn
  refine pss_imp (pss_cons (ps_raise ck.calm ek.takes (pmk_oex (dvs := []) F.T h1 h2 h3 hr h4 .nil passL hg F.gC (pa_cons he pa_nil hs) hdb hs hpl)) (pss_never (sts := rest))) fun Dn σ H ⟨P, s, G, hB, o, q⟩ => sE o q fun v d s1 G1 H1 g o1 r q1 => ?_
  refine ⟨by show 1 ≤ 1000; decide, fun a ha => ⟨a, v, rfl, upd_same, fun dx hdx ne => ⟨rfl, dx, [(fld, v)], upd_same, ?_, ?_, ?_⟩⟩⟩
  · rw [upd_ne ne, upd_same]
  · rw [upd_ne ne] at hdx; exact hdx
  · have hdx' : H1 dx = none := by rw [upd_ne ne] at hdx; exact hdx
    have e : upd (L2.del (upd (upd (upd H1 a (exo a C none)) dx (exd dx [(fld, v)])) a (exo a C (some dx))) a) dx (.xd [(fld, v)]) = upd H1 dx (.xd [(fld, v)]) := by
      funext b
      by_cases hb : b = dx
      · rw [hb, upd_same, upd_same]
      · rw [upd_ne hb, upd_ne hb]
        by_cases hb2 : b = a
        · rw [hb2, L2.del_same, ha]
        · rw [L2.del_ne hb2, upd_ne hb2, upd_ne hb, upd_ne hb2]
    rw [e]
    have o2 := o1.leave (.beside (p := dx) (o := .xd [(fld, v)]) o1.base.gh hdx')
    exact q1 _ _ G1 _ (Same.refl _) o2.base ⟨C, by rw [← ck.mg]; exact F.gC, rfl, dx, _, rfl, o1.base.free hdx', upd_same, .cons r .nil⟩
/-- the body of such an __init__ -/
theorem ok_init {P : Program} {w : World} {K : PySem.W.Frag} {mg : Str → Option Value} {base : Heap} {qual n fld : Str} {params : Arguments} {scope : Scope} {f : Addr} {fd : FuncData} {p1 p2 p3 p4 : Pos} (T : OexC K C) (hno : PySem.W.findIn K (.ref C) fld = some none)
    (F : FunD K n qual params [.Assign [.Attribute (.Name "self" p1) fld p2] (.Name fld p3) p4] scope [] [] f fd) (S : FnScope ["self", fld] ["self", fld] scope) (h1 : scope.names.lookup ("self" : Str) = some NameKind.local) (h2 : scope.names.lookup fld = some NameKind.local) (h3 : (fld == ("__debug__" : Str)) = false) (h4 : (fld == ("__classdict__" : Str)) = false)
    (hs : ∀ X : Cx, swapsWith (.Name fld p3) (some (.Attribute (.Name "self" p1) fld p2)) p4.line X.env = pure false) : FnOk P w K mg base (L2.CX P w) 1 f fd ["self", fld] (spInit C fld) :=
  F.ok S (fun vs H Q E ⟨a, y, e, _⟩ => by rw [e]; rfl) fun cdv A outer s H vs Q E hr ⟨a, y, e, ha, h⟩ => by
    subst e
    refine ⟨_, pss_one (ps_ost (pe_var (i := 0) (x := "self") rfl (.inl h1)) (pe_var (i := 1) (x := fld) rfl (.inl h2) h3 h4) (hs _)), ?_⟩
    exact ⟨y, rfl, .ref a, rfl, a, C, rfl, T, hno, .inl ⟨ha, fun dx hdx ne => h dx hdx ne⟩⟩
end
section
variable {γ α : Type} {Z : Fx} {Ex : XK} {X : Cx} {Γ : List Slot} {Γm : γ → List Slot} {Γn : α → List Slot} {rest : List Stmt} {pos : Pos} {e : Expr}
/-- return x, x an own list -/
theorem s_retOwn (i : Nat) {l : List D} (hg : Γ[i]? = some (.own l)) (he : PE X e (tVar i)) : PSs X (.Return (some e) pos :: rest) (rdS Z Ex Γ Γm Γn (M.pure (.retL l))) :=
  pss_imp (pss_cons (ps_ret he) (pss_never (sts := rest))) fun Dn σ H ⟨P, s, G, hB, o, q⟩ => by
    obtain ⟨p, vs, e0, e1, e2, e3, o2⟩ := o.delAt hg fun p e0 => by
      obtain ⟨fps, h1, h2⟩ := o.sl
      obtain ⟨v, fp, e, q, hq⟩ := h1.get hg
      rw [e0] at e
      cases e
      cases q with
      | own a b c d => exact hB.no b
    refine ⟨.ref p, e0, ?_⟩
    have := q p vs G (del H p) (Same.refl _) o2.base o2.thr del_same e2
    rw [del_upd e1] at this
    exact this
end
end Sim
end
section
set_option Elab.async false
set_option linter.all false
set_option maxRecDepth 100000
set_option maxHeartbeats 400000
namespace Sim
open PySem PySem.Spec PyProof.Rows L2
/-- a def of the module, kept by its promise -/
def CallF (P : Program) (w : World) (K : PySem.W.Frag) (mg : Str → Option Value) (base : Heap) (x : Str) (k : Nat) (sp : Sp) : Prop :=
  ∃ f fd ps, FnOk P w K mg base (L2.CX P w) k f fd ps sp ∧ mg x = some (.ref f) ∧ PySem.W.keepIn K (.ref f) = true ∧ Binds K fd ps []
/-- a def as the top has left it -/
def DefAt (K : PySem.W.Frag) (mg : Str → Option Value) (x : Str) (st : Stmt) : Prop := ∃ f fd, FD K x x st f fd ∧ mg x = some (.ref f)
def callP (n : Nat) (m : List D → M D) (ms : M (List D)) : M D := M.bind ms fun ds => if ds.length = n then M.pur (m ds) else M.stuck
def callL (n : Nat) (m : List D → M (List D)) (ms : M (List D)) : M (List D) := M.bind ms fun ds => if ds.length = n then M.pur (m ds) else M.stuck
def callS (n : Nat) (m : List D → M D) (ms : M (List D)) : M D := M.bind ms fun ds => if ds.length = n then M.nox (m ds) else M.stuck
def callSL (n : Nat) (m : List D → M (List D)) (ms : M (List D)) : M (List D) := M.bind ms fun ds => if ds.length = n then M.nox (m ds) else M.stuck
section
variable {Z : Fx} {Ex : XK} {X : Cx} {Γ : List Slot} {a e : Expr} {es : List Expr} {ms : M (List D)} {m : List D → M D} {ml : List D → M (List D)} {ma : M D} {pos p : Pos} {x : Str} {k j n : Nat}
theorem cP [ck : Cok0 Z X] [ek : Eok Ex X] (F : CallF X.prog X.w X.K X.mg X.base x j (spP Z n m)) (hr : Room k X.A) (hk : j ≤ k)
    (ha : PA X (a :: es) (rdA Z Ex Γ ms)) (hl : (a :: es).length = n := by rfl) (hg : Gl X x := by rfl) (hdb : (x == ("__debug__" : Str)) = false := by decide) (he : starEach (a :: es) X.env = (false, eval a X.env) :: starEach es X.env := by rfl) (hpl : (backTo pos (starEach es X.env)).any (·.1) = false := by rfl) :
    PE X (.Call (.Name x p) (a :: es) [] pos) (rdE Z Ex Γ (callP n m ms)) := by
  obtain ⟨f, fd, ps, F, h1, h2, h3⟩ := F
  exact e_call F (hr.mono hk) (by rw [← ck.mg]; exact h1) (by rw [← ck.K]; exact h2) (by rw [← ck.K]; exact h3) ha hl hg hdb he hpl
theorem cL [ck : Cok0 Z X] [ek : Eok Ex X] (F : CallF X.prog X.w X.K X.mg X.base x j (spL Z n ml)) (hr : Room k X.A) (hk : j ≤ k)
    (ha : PA X (a :: es) (rdA Z Ex Γ ms)) (hl : (a :: es).length = n := by rfl) (hg : Gl X x := by rfl) (hdb : (x == ("__debug__" : Str)) = false := by decide) (he : starEach (a :: es) X.env = (false, eval a X.env) :: starEach es X.env := by rfl) (hpl : (backTo pos (starEach es X.env)).any (·.1) = false := by rfl) :
    PE X (.Call (.Name x p) (a :: es) [] pos) (rdL Z Ex Γ (callL n ml ms)) := by
  obtain ⟨f, fd, ps, F, h1, h2, h3⟩ := F
  exact l_call F (hr.mono hk) (by rw [← ck.mg]; exact h1) (by rw [← ck.K]; exact h2) (by rw [← ck.K]; exact h3) ha hl hg hdb he hpl
theorem cS (i : Nat) {y : Str} {py : Pos} [ck : Cok0 Z X] [ek : Eok XF X] (F : CallF X.prog X.w X.K X.mg X.base x j (spS Z n m)) (hr : Room k X.A) (hk : j ≤ k)
    (hv : PE X (.Name y py) (tVar i)) (ha : PA X es (rdA Z Ex Γ ms)) (hG : Γ[i]? = some .thr := by rfl) (hl : es.length = n := by rfl) (hg : Gl X x := by rfl) (hdb : (x == ("__debug__" : Str)) = false := by decide) (he : starEach (.Name y py :: es) X.env = (false, eval (.Name y py) X.env) :: starEach es X.env := by rfl) (hpl : (backTo pos (starEach es X.env)).any (·.1) = false := by rfl) :
    PE X (.Call (.Name x p) (.Name y py :: es) [] pos) (rdE Z Ex Γ (callS n m ms)) := by
  obtain ⟨f, fd, ps, F, h1, h2, h3⟩ := F
  exact e_callS i F (hr.mono hk) (by rw [← ck.mg]; exact h1) (by rw [← ck.K]; exact h2) (by rw [← ck.K]; exact h3) hG hv ha hl hg hdb he hpl
theorem cSL (i : Nat) {y : Str} {py : Pos} [ck : Cok0 Z X] [ek : Eok XF X] (F : CallF X.prog X.w X.K X.mg X.base x j (spSL Z n ml)) (hr : Room k X.A) (hk : j ≤ k)
    (hv : PE X (.Name y py) (tVar i)) (ha : PA X es (rdA Z Ex Γ ms)) (hG : Γ[i]? = some .thr := by rfl) (hl : es.length = n := by rfl) (hg : Gl X x := by rfl) (hdb : (x == ("__debug__" : Str)) = false := by decide) (he : starEach (.Name y py :: es) X.env = (false, eval (.Name y py) X.env) :: starEach es X.env := by rfl) (hpl : (backTo pos (starEach es X.env)).any (·.1) = false := by rfl) :
    PE X (.Call (.Name x p) (.Name y py :: es) [] pos) (rdL Z Ex Γ (callSL n ml ms)) := by
  obtain ⟨f, fd, ps, F, h1, h2, h3⟩ := F
  exact l_callS i F (hr.mono hk) (by rw [← ck.mg]; exact h1) (by rw [← ck.K]; exact h2) (by rw [← ck.K]; exact h3) hG hv ha hl hg hdb he hpl
/-! ### an own list looked at -/
theorem e_lenOwn (i : Nat) {l : List D} {y : Str} {py : Pos} [ck : Cok0 Z X] (hm : Z.mg "len" = none) (hv : PE X (.Name y py) (tVar i)) (hG : Γ[i]? = some (.own l) := by rfl) (hg : Gl X "len" := by rfl)
    (hs : starEach [.Name y py] X.env = (false, eval (.Name y py) X.env) :: starEach [] X.env := by rfl) (hpl : (backTo pos (starEach [] X.env)).any (·.1) = false := by rfl) :
    PE X (.Call (.Name "len" p) [.Name y py] [] pos) (rdE Z Ex Γ (M.pure (.int (l.length : Nat)))) :=
  pe_imp (pe_callB (c_len (Z := Z)) hg (by rw [ck.mg]; exact hm) (by decide +kernel) (pa_cons hv pa_nil hs) (by decide) (by decide) hs hpl) fun σ H Q ⟨P, s, G, o, q⟩ => by
    obtain ⟨p, vs, e0, e1, e2⟩ := o.own hG
    refine ⟨.ref p, e0, .ref p, vs.length, rfl, .inl ⟨vs, .inl (.inl e1), rfl⟩, ?_⟩
    rw [e2.length]
    exact Post.pure q o _ (.int _)
theorem e_ixOwn (i : Nat) {l : List D} {y : Str} {py : Pos} [ck : Cok0 Z X] (hv : PE X (.Name y py) (tVar i)) (ha : PE X a (rdE Z Ex Γ ma)) (hG : Γ[i]? = some (.own l) := by rfl) (hs : PlainIx a := by exact fun _ _ => rfl) :
    PE X (.Subscript (.Name y py) a pos) (rdE Z Ex Γ (M.bind ma fun j => M.opt (dItem (.list l) j))) :=
  pe_imp (pe_ix (o_ix (Z := Z)) hv ha hs) fun σ H Q ⟨P, s, G, o, q⟩ => by
    obtain ⟨p, vs, e0, e1, e2⟩ := o.own hG
    refine ⟨.ref p, e0, stepE o q fun v d s1 G1 H1 g o1 r q1 => ?_⟩
    obtain ⟨p', vs', e0', e1', e2'⟩ := o1.own hG
    rw [e0] at e0'
    cases e0'
    obtain ⟨z, e, q2⟩ := Post.opt q1
    cases r <;> simp only [dItem] at e <;> try (cases e; done)
    rename_i j
    obtain ⟨v, c1, c2⟩ := Rps.atI e2' e
    exact .inl ⟨p, vs', j, v, rfl, rfl, .inl (.inl e1'), c1, Post.pure q2 o1 v c2⟩
theorem in_own {neg : Bool} {P : Par} {G H : Hp} {s : List D} {σ : L2.St} {l : List D} {i : Nat} {v : V} {d : D} {Q : VK} {b : Bool} (o : Ok Z P Γ s σ G H) (hG : Γ[i]? = some (.own l)) (r : Rp Z.K G v d) (hf : (flatD d && l.all flatD) = true)
    (hb : Q (.bl (if neg then !(l.any fun z => PyData.eqv z d) else l.any fun z => PyData.eqv z d)) H) : tVar i σ H fun y H1 => rIn Z.K neg v y H1 Q := by
  obtain ⟨p, vs, e0, e1, e2⟩ := o.own hG
  rw [Bool.and_eq_true] at hf
  refine ⟨.ref p, e0, p, vs, rfl, .inl (.inl (.inl e1)), r.flat hf.1, e2.flat hf.2, ?_⟩
  rw [Rps.inV r hf.1 e2 hf.2]
  exact hb
def dInF (x : D) (l : List D) : Option Bool := if flatD x && l.all flatD then some (l.any fun z => PyData.eqv z x) else none
def dNotInF (x : D) (l : List D) : Option Bool := (dInF x l).map (!·)
theorem o_inF [ck : Cok0 Z X] : OpR X (compareOp .In) (rIn Z.K false) := ck.K ▸ op_in_seq
theorem o_notinF [ck : Cok0 Z X] : OpR X (compareOp .NotIn) (rIn Z.K true) := ck.K ▸ op_notIn_seq
theorem b_inOwn (i : Nat) {l : List D} {y : Str} {py : Pos} [ck : Cok0 Z X] (ha : PE X a (rdE Z Ex Γ ma)) (hv : PE X (.Name y py) (tVar i)) (hG : Γ[i]? = some (.own l) := by rfl) (hm : behindInMarks .In (.Name y py) = false := by first | exact nomark _ | rfl) :
    PE X (.Compare a [.In] [.Name y py] pos) (rdB Z Ex Γ (M.bind ma fun d => M.opt (dInF d l))) :=
  pe_imp (pe_cmpR (o_inF (Z := Z)) ha hv hm) fun σ H Q ⟨P, s, G, o, q⟩ => stepE o q fun v d s1 G1 H1 g o1 r q1 => by
    obtain ⟨z, e, q2⟩ := Post.opt q1
    unfold dInF at e
    split at e
    · rename_i hf
      cases e
      exact in_own (neg := false) (b := false) o1 hG r hf (Post.pure q2 o1)
    · cases e
theorem b_notinOwn (i : Nat) {l : List D} {y : Str} {py : Pos} [ck : Cok0 Z X] (ha : PE X a (rdE Z Ex Γ ma)) (hv : PE X (.Name y py) (tVar i)) (hG : Γ[i]? = some (.own l) := by rfl) (hm : behindInMarks .NotIn (.Name y py) = false := by first | exact nomark _ | rfl) :
    PE X (.Compare a [.NotIn] [.Name y py] pos) (rdB Z Ex Γ (M.bind ma fun d => M.opt (dNotInF d l))) :=
  pe_imp (pe_cmpR (o_notinF (Z := Z)) ha hv hm) fun σ H Q ⟨P, s, G, o, q⟩ => stepE o q fun v d s1 G1 H1 g o1 r q1 => by
    obtain ⟨z, e, q2⟩ := Post.opt q1
    unfold dNotInF at e
    rw [Option.map_eq_some_iff] at e
    obtain ⟨c, e, rfl⟩ := e
    unfold dInF at e
    split at e
    · rename_i hf
      cases e
      exact in_own (neg := true) (b := false) o1 hG r hf (Post.pure q2 o1)
    · cases e
/-- a module's int -/
theorem e_gint {i : Int} (hm : ∃ t, Z.mg x = some (.int i t)) [ck : Cok0 Z X] (hg : Gl X x := by rfl) (hdb : (x == ("__debug__" : Str)) = false := by decide) : PE X (.Name x pos) (rdE Z Ex Γ (M.pure (.int i))) := by
  obtain ⟨t, hm⟩ := hm
  exact e_pure (pe_glob hg (by rw [ck.mg]; exact hm) (v := .int i) ⟨t, rfl⟩ hdb) fun _ _ => .int i
theorem e_gstr {i : Str} (hm : ∃ t, Z.mg x = some (.str i t)) [ck : Cok0 Z X] (hg : Gl X x := by rfl) (hdb : (x == ("__debug__" : Str)) = false := by decide) : PE X (.Name x pos) (rdE Z Ex Γ (M.pure (.str i))) := by
  obtain ⟨t, hm⟩ := hm
  exact e_pure (pe_glob hg (by rw [ck.mg]; exact hm) (v := .str i) ⟨t, rfl⟩ hdb) fun _ _ => .str i
end
end Sim
end
section
set_option Elab.async false
set_option linter.all false
set_option maxRecDepth 100000
set_option maxHeartbeats 400000
namespace Sim
open PySem PySem.Spec PyProof.Rows L2
theorem hv_len : bootBuiltins "len" = some (.builtin "len") := by decide +kernel
theorem hv_all : bootBuiltins "all" = some (.builtin "all") := by decide +kernel
theorem hv_any : bootBuiltins "any" = some (.builtin "any") := by decide +kernel
theorem hv_sum : bootBuiltins "sum" = some (.builtin "sum") := by decide +kernel
theorem hv_sorted : bootBuiltins "sorted" = some (.builtin "sorted") := by decide +kernel
theorem hv_abs : bootBuiltins "abs" = some (.builtin "abs") := by decide +kernel
theorem hv_int : bootBuiltins "int" = some (.type "int") := by decide +kernel
theorem hv_tuple : bootBuiltins "tuple" = some (.type "tuple") := by decide +kernel
theorem hv_list : bootBuiltins "list" = some (.type "list") := by decide +kernel
/-- for x in ..: F; k -/
def mForB {ι α β γ : Type} (mi : M (List D)) (bnd : D → Option ι) (F : ι → α → M (Out α α)) (a0 : α) (k : α → M (Out γ β)) : M (Out γ β) := M.bind mi fun l => andThen (mFor (fun d a => M.bind (M.opt (bnd d)) fun x => F x a) l a0) k
def mCompB {ι : Type} (mi : M (List D)) (bnd : D → Option ι) (ft : ι → M Bool) (fe : ι → M D) : M (List D) := M.bind mi fun l => M.bind (lim l) fun l => mComp bnd ft fe l []
def mCmp (f : D → D → Option Bool) (ma mb : M D) : M Bool := M.bind ma fun x => M.bind mb fun y => M.opt (f x y)
def mBin (f : D → D → Option D) (ma mb : M D) : M D := M.bind ma fun x => M.bind mb fun y => M.opt (f x y)
def mBinL (f : D → D → Option (List D)) (ma mb : M D) : M (List D) := M.bind ma fun x => M.bind mb fun y => M.opt (f x y)
def mChain (f f' : D → D → Option Bool) (ma mb mc : M D) : M Bool := M.bind ma fun x => M.bind mb fun y => M.bind (M.opt (f x y)) fun k => if k then M.bind mc fun z => M.opt (f' y z) else M.pure false
def mB (f : List D → Option D) (ms : M (List D)) : M D := M.bind ms fun ds => M.opt (f ds)
def mBB (f : List D → Option Bool) (ms : M (List D)) : M Bool := M.bind ms fun ds => M.opt (f ds)
def mBL (f : List D → Option (List D)) (ms : M (List D)) : M (List D) := M.bind ms fun ds => M.opt (f ds)
def mCons (ma : M D) (ms : M (List D)) : M (List D) := M.bind ma fun x => M.bind ms fun xs => M.pure (x :: xs)
def mSeq (ma : M D) : M (List D) := M.bind ma fun d => M.opt (dItems d)
def mOfB (m : M Bool) : M D := M.bind m fun b => M.pure (.bool b)
def mOfL (m : M (List D)) : M D := M.bind m fun l => M.pure (.list l)
def mTo (m : M D) : M Bool := M.bind m fun d => M.opt (dBool d)
def mIsI (k : Cl) (m : M D) : M Bool := M.bind m fun d => M.pure (isI k d)
def mIsI2 (k k' : Cl) (m : M D) : M Bool := M.bind m fun d => M.pure (isI k d || isI k' d)
def mIf (mc : M Bool) (a b : M D) : M D := M.bind mc fun c => if c then a else b
def mIfx {γ α : Type} (mc : M Bool) (ma : M (Out Empty α)) (mr : M (Out γ α)) : M (Out γ α) := M.bind mc fun t => if t then exits ma else mr
def mIfj {γ δ α : Type} (mc : M Bool) (ma mb : M (Out δ α)) (k : δ → M (Out γ α)) : M (Out γ α) := M.bind mc fun t => andThen (if t then ma else mb) k
def mRet {γ α : Type} (m : M D) : M (Out γ α) := M.bind m fun d => M.pure (.ret d)
def mRetL {γ α : Type} (m : M (List D)) : M (Out γ α) := M.bind m fun d => M.pure (.retL d)
def mDo {γ α : Type} (m : M D) (k : M (Out γ α)) : M (Out γ α) := M.bind m fun _ => k
def mUnp {ι γ α : Type} (me : M D) (bnd : D → Option ι) (k : ι → M (Out γ α)) : M (Out γ α) := M.bind me fun d => M.bind (M.opt (bnd d)) k
def mSl (ma : M D) (ml mh : M (Option Int)) : M D := M.bind ma fun x => M.bind ml fun l => M.bind mh fun h => M.opt (dSlice x l h)
def mSlL (ma : M D) (ml mh : M (Option Int)) : M (List D) := M.bind ma fun x => M.bind ml fun l => M.bind mh fun h => M.opt (dSliceL x l h)
def mEnd (ma : M D) : M (Option Int) := M.bind ma fun x => M.bind (M.opt (dInt1 x)) fun i => M.pure (some i)
def mRevL (ma : M D) : M (List D) := M.bind ma fun x => M.opt (dListOf [x] |>.bind fun l => match x with | .list _ => some l.reverse | _ => none)
def mApp {γ α : Type} (l : List D) (me : M D) (k : List D → M (Out γ α)) : M (Out γ α) := M.bind me fun d => M.bind (M.opt (dApp l d)) k
def mExt {γ α : Type} (l : List D) (me : M D) (k : List D → M (Out γ α)) : M (Out γ α) := M.bind me fun d => M.bind (M.opt (dExt l d)) k
def mRem {γ α : Type} (l : List D) (me : M D) (k : List D → M (Out γ α)) : M (Out γ α) := M.bind me fun d => M.bind (M.opt (dRem l d)) k
def mStore {γ α : Type} (l : List D) (me ma : M D) (k : List D → M (Out γ α)) : M (Out γ α) := M.bind me fun d => M.bind ma fun j => M.bind (M.opt (dPut l j d)) k
def mRaise1 {γ α : Type} (x fld : Str) (me : M D) : M (Out γ α) := M.bind me fun d => M.raise ⟨x, [(fld, d)]⟩
section
variable {ι : Type} {Z : Fx} {Ex : XK} {X : Cx} {Γ : List Slot} {tg iter elt : Expr} {pos : Pos} {ix : List Nat} {g : TG} {bnd : D → Option ι} {up : ι → List Slot → List Slot}
/-- a comprehension's reading -/
theorem comp_rd {mi : M (List D)} {ft : ι → M Bool} {fe : ι → M D} {vs : List Nat} {σ : L2.St} {H : Hp} {Q : VK} (ht : TgUp Z.K g vs bnd up) (h : rdL Z Ex Γ (mCompB mi bnd ft fe) σ H Q) :
    tLc (rdI Z Ex Γ mi) g (fun σ H Q => ∃ x, rdT Z XF (up x (wipeS Γ vs)) (ft x) σ H Q) (fun σ H Q => ∃ x, rdE Z XF (up x (wipeS Γ vs)) (fe x) σ H Q) vs σ H Q := by
  obtain ⟨P, s, G, o, q⟩ := h
  refine stepI o q fun J l s1 G1 H1 g1 o1 it q1 => fun D hD => ?_
  have hl : l.length ≤ 1000000 := by
    unfold lim at q1
    split at q1
    · assumption
    · exact q1.elim
  unfold lim at q1
  rw [if_pos hl] at q1
  exact comp_core ht o1 it hl q1 D hD
/-- y = [..] -/
theorem s_setC (i : Nat) {γ α : Type} {Γm : γ → List Slot} {Γn : α → List Slot} {rest : List Stmt} {y : Str} {py spos : Pos} {k : List D → M (Out γ α)} {mi : M (List D)} {ft : ι → M Bool} {fe : ι → M D} {ifs : List Expr} {scope : Scope} {own : List (Str × Nat)} [ck : Cok Z X] (hi : PI X tg iter (rdI Z Ex Γ mi)) (ok : BlkOk X.N X.env.scope scope own)
    (hg : ∀ (s : Shared) (H : Hp) (C : Addr) (cl : List (Str × Addr)) (fp : List Addr), PG (X.blk s H scope (compEnvC scope cl C X.env) fp) tg g) (ht : TgUp Z.K g (own.map (·.2)) bnd up)
    (hts : ∀ (s : Shared) (H : Hp) (C : Addr) (cl : List (Str × Addr)) (fp : List Addr) (x : ι), PTs (X.blk s H scope (compEnvC scope cl C X.env) fp) ifs (rdT Z XF (up x (wipeS Γ (own.map (·.2)))) (ft x)))
    (he : ∀ (s : Shared) (H : Hp) (C : Addr) (cl : List (Str × Addr)) (fp : List Addr) (x : ι), PE (X.blk s H scope (compEnvC scope cl C X.env) fp) elt (rdE Z XF (up x (wipeS Γ (own.map (·.2)))) (fe x)))
    (hr : ∀ l, PSs X rest (rdS Z Ex (Γ.set i (.own l)) Γm Γn (k l)))
    (hy : X.N[i]? = some y := by rfl) (hΓ : Γ[i]?.isSome = true := by rfl) (hyl : X.env.scope.names.lookup y = some .local := by rfl)
    (hsw : swapsWith (.ListComp elt [⟨tg, iter, ifs, 0⟩] scope pos) (some (.Name y py)) spos.line X.env = pure true := by exact sw_true rfl rfl rfl (by decide +kernel))
    (hs : ∀ x, foldedSetIterable iter X.env x = pure x := by intro _; rfl) :
    PSs X (.Assign [.Name y py] (.ListComp elt [⟨tg, iter, ifs, 0⟩] scope pos) spos :: rest) (rdS Z Ex Γ Γm Γn (M.bind (mCompB mi bnd ft fe) k)) :=
  pss_imp (pss_cons (ps_setLc ck.calm ck.nd hy hyl hsw hi ok hg (fun s H C cl fp => pts_any (hts s H C cl fp)) (fun s H C cl fp => pe_any (he s H C cl fp)) hs) (pss_any hr)) fun Dn σ H ⟨P, s, G, hB, o, q⟩ =>
    comp_rd ht (sL (C := fun v H1 => ∃ d, rdS Z Ex (Γ.set i (.own d)) Γm Γn (k d) Dn (σ.set i (some v)) H1) o q fun p vs l s1 G1 H1 g o1 hp r q1 => by
      obtain ⟨g0, hg⟩ := Option.isSome_iff_exists.mp hΓ
      exact ⟨l, P, s1, G1, hB, o1.setL hg hp r, q1⟩)
end
end Sim
end
section
set_option Elab.async false
set_option linter.all false
set_option maxRecDepth 100000
set_option maxHeartbeats 1000000
namespace PySem
theorem meets_enumerate_new1 {v : Value} {o : Obj} {H : Heap → Prop} (B : Begins v o H) :
    Meets (Builtin.«enumerate.__new__» ⟨[.type "enumerate", v], []⟩) (fun _ R s => H s.heap ∧
      R (.ok (.ret (.ref (s.heap.push o).objs.size))) { s with heap := (s.heap.push o).push { cls := .type "enumerate", data := .fields #[.none, .bool false, .ref s.heap.objs.size, rawInt 0, .none, .none] } }) :=
  .of_wp fun prog w A R s h => by
    obtain ⟨hp, g, d, tk, os⟩ := s; obtain ⟨h1, h⟩ := h
    have hsub := sub_enumerate
    have q1 : ∀ {A' : Around} {E : Value → Shared → Prop} {Q : Value → Shared → Prop}, Q (.ref hp.objs.size) ⟨hp.push o, g, d, tk, os⟩ → wpAny (model prog w) A' (pyIter v) Q E ⟨hp, g, d, tk, os⟩ :=
      fun q => B.iter prog w _ _ ⟨hp, g, d, tk, os⟩ _ h1 q
    wp_walk using q1
    refine wpAny_stack_any fun st => wpAny_pure ?_
    split
    · rename_i c _ _ _ _ _
      cases (c == Value.type "enumerate")
      · wp_walk using q1
        exact ⟨_, rfl, h⟩
      · wp_walk using q1
        exact ⟨_, rfl, h⟩
    · wp_walk using q1
      exact ⟨_, rfl, h⟩
section
variable {prog : Program} {w : World} {A : Around} {E : Value → Shared → Prop} {s : Shared}
theorem enum_begins1 {v : Value} {o : Obj} {H : Heap → Prop} {Q : Value → Shared → Prop} (B : Begins v o H) (h1 : H s.heap)
    (h : ∀ h', IsEnum h' (s.heap.objs.size + 1) s.heap.objs.size 0 .none → h'.get? s.heap.objs.size = some o → h'.objs.size = s.heap.objs.size + 2 →
      (∀ b o, s.heap.get? b = some o → h'.get? b = some o) → Q (.ref (s.heap.objs.size + 1)) { s with heap := h' }) :
    wpAny (model prog w) A (call (.type "enumerate") [v]) Q E s := by
  refine callType_new F.called_enumerate (by decide) (F.typeCall_enumerate_1 _) (F.newCall_enumerate_1 _) (fun obj => F.args_object_init_2 obj _) F.entry_enumerate_new
    (meets_enumerate_new1 B) ⟨h1, ?_⟩
  have hz : (s.heap.push o).objs.size = s.heap.objs.size + 1 := Heap.size_push ..
  show _ ∧ _
  rw [hz]
  have he : IsEnum ((s.heap.push o).push { cls := .type "enumerate", data := .fields #[.none, .bool false, .ref s.heap.objs.size, rawInt 0, .none, .none] }) (s.heap.objs.size + 1) s.heap.objs.size 0 .none := by
    have := Heap.get?_push_size (s.heap.push o) (o := { cls := .type "enumerate", data := .fields #[.none, .bool false, .ref s.heap.objs.size, rawInt 0, .none, .none] }) rfl
    rw [hz] at this; exact this
  refine ⟨⟨_, he, rfl⟩, h _ he (Heap.get?_push_of_some _ (Heap.get?_push_size _ B.free)) (by rw [Heap.size_push, hz]) fun b o x => Heap.get?_push_of_some _ (Heap.get?_push_of_some _ x)⟩
theorem pyNext_enumT_end {e it l : Addr} {i : Nat} {items : Array Value} {old : Value} {Q : Option Value → Shared → Prop} (hh : A.handled = none)
    (he : IsEnum s.heap e it i old) (hit : s.heap.IsTupleIter it l i) (hl : s.heap.IsTuple l items) (hx : items[i]? = none)
    (hQ : ∀ h', Heap.ExtBut it s.heap h' → Q none { s with heap := h' }) : wpAny (model prog w) A (pyNext (.ref e)) Q E s := by
  have hT : s.TypeIs (.ref e) "enumerate" := ⟨_, he, rfl⟩
  unfold pyNext
  refine wpAny_bind (wpAny_attempt (wpAny_callSpecial?_slot (name := Str.ofString "__next__") hT F.slot_enumerate_next
    (wpAny_call_entry F.slot_enumerate_next hT F.entry_enumerate_next ?_ (F.args_enumerate_next_1 _))))
  show wpAny _ _ (field (.ref e) 2 >>= _) _ _ _
  refine wpAny_bind (wpAny_field he rfl (x := .ref it) rfl ?_)
  refine wpAny_bind (wpAny_nextOf_tuple_end hh hit hl hx fun h' x he' hx' => ?_)
  obtain ⟨o, ho, hc⟩ := hx'
  refine wpAny_bind (wpAny_isInstance (T := "StopIteration") (b := true) ⟨o, ho, hc⟩ isSubtype_stop ?_)
  exact wpAny_pure (hQ _ he')
end
end PySem
namespace Sim
open PySem PySem.Spec PyProof.Rows L2
def IteT (K : PySem.W.Frag) (a : Addr) : It :=
  ⟨fun i H => ∃ (xs : List V) (x : V), SqT K H a xs ∧ xs[i]? = some x, fun i H v H' => ∃ T x, v = .ref T ∧ H T = none ∧ H' = upd H T (.tup [.int (i : Nat), x]) ∧ ∀ xs, SqT K H a xs → xs[i]? = some x, fun i H => ∃ xs : List V, SqT K H a xs ∧ xs.length ≤ i⟩
theorem turn_enumT {P : Program} {w : World} {K : PySem.W.Frag} {elts : List Expr} {kk : Nat} {tpos : Pos} (a e it : Addr) (hai : a ≠ it) (hea : e ≠ a) :
    Turn P w K (.Tuple elts kk tpos) (IteT K a) [e, it] e (fun i h => (∃ old, IsEnum h e it ((i : Nat) : Int) old) ∧ h.IsTupleIter it a i ∧ e ≠ it) where
  mem := by simp
  obj := fun i h st b hb => by
    obtain ⟨⟨old, he⟩, ⟨o, ho, hc, hd⟩, _⟩ := st
    have e' : b = e ∨ b = it := by simpa using hb
    rcases e' with z | z
    · rw [z]; exact ⟨_, he, fun v q => nomatch q⟩
    · rw [z]; exact ⟨o, ho, fun v q => by rw [hd] at q; cases q⟩
  keep := fun i h h' st k => let ⟨⟨old, he⟩, hi, hne⟩ := st; ⟨⟨old, k e (by simp) _ he⟩, hi.at fun o q => k it (by simp) o q, hne⟩
  item := by
    intro X hP hw hK hc i pins s σ H E I hf st hg
    subst hP hw hK
    obtain ⟨⟨old, he⟩, hit, hne⟩ := st
    obtain ⟨xs, x, hq, hx⟩ := hg
    obtain ⟨its, rv, p, hz⟩ := I.tuple hq
    obtain ⟨u, hu, ru⟩ := rv.get hx
    have hel : e < s.heap.objs.size := Heap.lt_size he
    have hil : it < s.heap.objs.size := by obtain ⟨_, q, _⟩ := hit; exact Heap.lt_size q
    have hlt : i < its.toArray.size := by
      have := (List.getElem?_eq_some_iff.mp hu).1
      simpa using this
    have D := Draws.tuple (prog := X.prog) (w := X.w) (A := X.A.in1) (I.ok.hd hc) it a hai its.toArray
    refine wpAny_pyNext_enum_itemD D he ⟨hit, p⟩ hlt hne (by simpa using ⟨hne, hea⟩) fun x' h' tk hx' ho hit' hT hsz hk => ?_
    have hu' : x' = u := by
      have : its.toArray[i]? = some x' := hx'
      have h2 : its.toArray[i]? = some u := by simpa using hu
      rw [h2] at this
      exact (Option.some.inj this).symm
    subst hu'
    refine ⟨_, rfl, wpAny_letOwnedTupleGo_enum (s := { s with heap := h', toks := tk + 1 }) ho fun h'' he' sb => ?_⟩
    have hT2 : h''.get? s.heap.objs.size = some { cls := .type "tuple", data := .seq #[.int i tk, x'] } := (sb.2 _ (Nat.ne_of_gt hel)).trans hT
    have new : ObjOk X.prog X.w (upd H s.heap.objs.size (.tup [.int (i : Nat), x])) h'' s.heap.objs.size (.tup [.int (i : Nat), x]) :=
      ⟨by show 2 ≤ sizeLine; decide, [.int i tk, x'], .cons ⟨_, rfl⟩ (.cons ru .nil), ⟨_, hT2, rfl, _, rfl⟩⟩
    have I1 : Inv X pins σ (upd H s.heap.objs.size (.tup [.int (i : Nat), x])) { s with heap := h'', toks := tk + 1 } :=
      I.turnedNew (ch := [e, it]) (fun b ob hb q => (sb.2 b (fun z => hb (by simp [z]))).trans (hk b ob (fun z => hb (by simp [z])) (fun z => hb (by simp [z])) q)) hf (Nat.le_refl _) new
    refine ⟨.ref s.heap.objs.size, _, I1, rfl, ⟨_, x, rfl, I.hok.fresh (Nat.le_refl _), rfl, fun ys hy => by rw [I.tuple_inj hy hq]; exact hx⟩, ⟨⟨x', ?_⟩, hit'.1.at fun o q => (sb.2 it (Ne.symm hne)).trans q, hne⟩, fun b hb => ?_⟩
    · have e1 : ((i + 1 : Nat) : Int) = (i : Int) + 1 := by omega
      rw [e1]; exact he'
    · have hb' : b < s.heap.objs.size := by
        have e' : b = e ∨ b = it := by simpa using hb
        rcases e' with z | z
        · rw [z]; exact hel
        · rw [z]; exact hil
      rw [upd_ne (Nat.ne_of_lt hb')]
      exact (hf b hb).1
  done := by
    intro X hP hw hK hc i pins s σ H E I hf st hg
    subst hP hw hK
    obtain ⟨⟨old, he⟩, hit, hne⟩ := st
    obtain ⟨xs, hq, hx⟩ := hg
    obtain ⟨its, rv, p, hz⟩ := I.tuple hq
    obtain ⟨f0, f1, f2, f3, f4, f5⟩ := hf it (by simp)
    have hl := rv.length
    exact pyNext_enumT_end (I.ok.hd hc) he hit (show s.heap.IsTuple a its.toArray from p) (by simp; omega) fun h' eb => ⟨rfl, I.turned (t' := s.toks) (fun b o hb q => eb b o hb q) f0 f1 f3 f4 f5⟩
  self := fun A i s Q E st h => let ⟨⟨_, he⟩, _⟩ := st; wpAny_pyIter_enum he h
def iEnumT (K : PySem.W.Frag) (ta : TA) : TI := fun σ H R => ta σ H fun vs H1 => ∃ a xs, vs = [.ref a] ∧ SqT K H1 a xs ∧ R (IteT K a) H1
theorem pi_enumT {X : Cx} {e : Expr} {ta : TA} {p pos tpos : Pos} {elts : List Expr} {kk : Nat} (hg : Gl X "enumerate") (hm : X.mg "enumerate" = none) (ha : PA X [e] ta) (hs : starEach [e] X.env = [(false, eval e X.env)] := by rfl) :
    PI X (.Tuple elts kk tpos) (.Call (.Name "enumerate" p) [e] [] pos) (iEnumT X.K ta) := by
  refine ⟨fun pins s σ H R I h => ?_⟩
  refine Call_ (ld_blt I hg hm boot_enumerate (PyProof.Rows.callWith_type1 (thn (ha.run pos pins s σ H _ I h) fun us s1 ⟨vs, H1, I1, r1, q1⟩ => ?_) hs rfl))
  obtain ⟨a, xs, ex, hq, q⟩ := q1
  subst ex
  cases r1 with
  | cons r rr =>
    cases rr
    cases r
    obtain ⟨its, rv, p', hz⟩ := I1.tuple hq
    have hlt : a < s1.heap.objs.size := by obtain ⟨o, e, _⟩ := p'; exact Heap.lt_size e
    refine enum_begins1 (begins_tuple a its.toArray) p' fun h' he hit hsz hk => wpAny_pyIter_enum he ?_
    have I2 : Inv X pins σ H1 { s1 with heap := h' } := I1.kept (t' := s1.toks) hk
    refine ⟨s1.heap.objs.size + 1, [s1.heap.objs.size + 1, s1.heap.objs.size], _, _, H1, rfl, I2, turn_enumT a (s1.heap.objs.size + 1) s1.heap.objs.size (Nat.ne_of_lt hlt) (Nat.ne_of_gt (Nat.lt_succ_of_lt hlt)), ⟨⟨.none, he⟩, ⟨_, hit, rfl, rfl⟩, Nat.succ_ne_self _⟩, fun b hb => ?_, q⟩
    have e' : b = s1.heap.objs.size + 1 ∨ b = s1.heap.objs.size := by simpa using hb
    have hle : s1.heap.objs.size ≤ b := by
      rcases e' with z | z
      · rw [z]; exact Nat.le_add_right _ _
      · rw [z]; exact Nat.le_refl _
    exact I1.fpOk hle (I1.hok.fresh hle)
theorem iter_enumT {K : PySem.W.Frag} {mg : Str → Option Value} {T : List (Addr × Str)} {a : Addr} {vs : List V} {l : List D} {G : Hp} (h : G a = some (.tup vs)) (r : Rps K G vs l) : IterOk ⟨K, mg, T⟩ (IteT K a) G (enumD l) where
  go i H s hi := by
    have hi' : i < vs.length := by rw [r.length]; simpa [enumD] using hi
    exact ⟨vs, vs[i], .inl (.inl (s _ _ h)), by simp⟩
  stop H s := ⟨vs, .inl (.inl (s _ _ h)), by rw [r.length]; simp [enumD]⟩
  yld i H x H' G1 g1 s y := by
    obtain ⟨T, x1, rfl, hT, rfl, c1⟩ := y
    refine ⟨upd G1 T (.tup [.int (i : Nat), x1]), .new s hT, fun d hd => ?_⟩
    unfold enumD at hd
    rw [List.getElem?_mapIdx, Option.map_eq_some_iff] at hd
    obtain ⟨dx, e1, rfl⟩ := hd
    obtain ⟨v, e3, e4⟩ := r.get' e1
    have q1 := c1 vs (.inl (.inl (s _ _ (g1 _ _ h))))
    rw [e3] at q1
    cases q1
    exact .tup upd_same (.cons (.int _) (.cons (e4.mono (g1.trans (same_upd (s.free hT)))) .nil))
def dEnumT : List D → Option (List D)
  | [.tuple a] => some (enumD a)
  | _ => none
theorem i_enumT {Z : Fx} {Ex : XK} {X : Cx} {Γ : List Slot} {tg e : Expr} {ms : M (List D)} [ck : Cok0 Z X] (hp : PI X tg e (iEnumT X.K (rdA Z Ex Γ ms))) : PI X tg e (rdI Z Ex Γ (M.bind ms fun n => M.opt (dEnumT n))) := by
  refine pi_imp hp fun σ H R ⟨P, s, G, o, q⟩ => stepA o q fun v d s1 G1 H1 g o1 r q1 => ?_
  obtain ⟨K, mg, T⟩ := Z
  have eK : X.K = K := ck.K
  rw [eK]
  obtain ⟨l, e, q2⟩ := Post.opt q1
  unfold dEnumT at e
  split at e
  · cases e
    cases r with
    | cons r1 r2 =>
      cases r1 with
      | tup h1 r1 =>
      cases r2
      exact ⟨_, _, rfl, .inl (.inl (o1.base.gh _ _ h1)), Post.pure q2 o1 _ (iter_enumT h1 r1)⟩
  · cases e
end Sim
end
section
set_option Elab.async false
set_option linter.all false
set_option maxRecDepth 100000
set_option maxHeartbeats 400000
namespace Sim
open PySem PySem.Spec PyProof.Rows L2
section
variable {γ α : Type} {Z : Fx} {Ex : XK} {X : Cx} {Γ : List Slot} {Γm : γ → List Slot} {Γn : α → List Slot} {rest : List Stmt} {a b e : Expr} {es : List Expr} {ms : M (List D)} {ma mb : M D} {pos p : Pos}
theorem t_inOwn (i : Nat) {l : List D} {y : Str} {py : Pos} [ck : Cok0 Z X] (ha : PE X a (rdE Z Ex Γ ma)) (hv : PE X (.Name y py) (tVar i)) (hG : Γ[i]? = some (.own l) := by rfl) (hm : behindInMarks .In (.Name y py) = false := by first | exact nomark _ | rfl) :
    PT X (.Compare a [.In] [.Name y py] pos) (rdT Z Ex Γ (M.bind ma fun d => M.opt (dInF d l))) :=
  pt_imp (pt_cmpR (o_inF (Z := Z)) ha hv hm) fun σ H Q ⟨P, s, G, o, q⟩ => stepE o q fun v d s1 G1 H1 g o1 r q1 => by
    obtain ⟨z, e, q2⟩ := Post.opt q1
    unfold dInF at e
    split at e
    · rename_i hf
      cases e
      exact in_own (neg := false) (b := false) o1 hG r hf ⟨_, rfl, Post.pure q2 o1⟩
    · cases e
theorem t_notinOwn (i : Nat) {l : List D} {y : Str} {py : Pos} [ck : Cok0 Z X] (ha : PE X a (rdE Z Ex Γ ma)) (hv : PE X (.Name y py) (tVar i)) (hG : Γ[i]? = some (.own l) := by rfl) (hm : behindInMarks .NotIn (.Name y py) = false := by first | exact nomark _ | rfl) :
    PT X (.Compare a [.NotIn] [.Name y py] pos) (rdT Z Ex Γ (M.bind ma fun d => M.opt (dNotInF d l))) :=
  pt_imp (pt_cmpR (o_notinF (Z := Z)) ha hv hm) fun σ H Q ⟨P, s, G, o, q⟩ => stepE o q fun v d s1 G1 H1 g o1 r q1 => by
    obtain ⟨z, e, q2⟩ := Post.opt q1
    unfold dNotInF at e
    rw [Option.map_eq_some_iff] at e
    obtain ⟨c, e, rfl⟩ := e
    unfold dInF at e
    split at e
    · rename_i hf
      cases e
      exact in_own (neg := true) (b := false) o1 hG r hf ⟨_, rfl, Post.pure q2 o1⟩
    · cases e
/-! ### list(range(..)), tuple(range(..)) -/
def mRng1 (m : M D) : M (List D) := M.bind m fun n => M.opt (dRng1 [n])
def mRng2 (m m' : M D) : M (List D) := M.bind m fun a => M.bind m' fun b => M.opt (dRng2 [a, b])
def mLRng (m : M (List D)) : M (List D) := m
def mTRng (m : M (List D)) : M D := M.bind m fun l => M.pure (.tuple l)
theorem rps_rng {K : PySem.W.Frag} {H : Hp} (a b : Int) : Rps K H (rgV a b) (rngD a (b - a).toNat) := by
  have h : rgV a b = ((List.range (b - a).toNat).map fun i => (a + (i : Nat) : Int)).map V.int := by simp [rgV]
  have h2 : rngD a (b - a).toNat = ((List.range (b - a).toNat).map fun i => (a + (i : Nat) : Int)).map PyData.int := by simp [rngD]
  rw [h, h2]
  exact rps_ints _
theorem l_rng1 (hp : PE X e (tLstRg (tRg1 (rdE Z Ex Γ ma)))) : PE X e (rdL Z Ex Γ (mLRng (mRng1 ma))) :=
  pe_imp hp fun σ H Q ⟨P, s, G, o, q⟩ => stepE o q fun v d s1 G1 H1 g o1 r q1 => by
    obtain ⟨l, e, q2⟩ := Post.opt q1
    cases r <;> simp only [dRng1] at e <;> try (cases e; done)
    rename_i n
    split at e
    · rename_i h
      cases e
      refine ⟨n, rfl, ⟨by omega, by omega, by omega, by omega, by omega⟩, fun p hp => Post.pure q2 o1 p _ hp ?_⟩
      have := rps_rng (K := Z.K) (H := G1) 0 n
      simpa using this
    · cases e
theorem l_rng2 (hp : PE X e (tLstRg (tRg2 (rdE Z Ex Γ ma) (rdE Z Ex Γ mb)))) : PE X e (rdL Z Ex Γ (mLRng (mRng2 ma mb))) :=
  pe_imp hp fun σ H Q ⟨P, s, G, o, q⟩ => stepE o q fun v d s1 G1 H1 g o1 r q1 => stepE o1 q1 fun v' d' s2 G2 H2 g2 o2 r2 q2 => by
    obtain ⟨l, e, q3⟩ := Post.opt q2
    cases r <;> cases r2 <;> simp only [dRng2] at e <;> try (cases e; done)
    rename_i n m
    split at e
    · rename_i h
      cases e
      exact ⟨n, m, rfl, rfl, ⟨by omega, by omega, by omega, by omega, by omega⟩, fun p hp => Post.pure q3 o2 p _ hp (rps_rng n m)⟩
    · cases e
theorem e_rng1 (hp : PE X e (tTupRg (tRg1 (rdE Z Ex Γ ma)))) : PE X e (rdE Z Ex Γ (mTRng (mRng1 ma))) :=
  pe_imp hp fun σ H Q ⟨P, s, G, o, q⟩ => by
    unfold mTRng mRng1 at q
    rw [M.bind_assoc] at q
    refine stepE o q fun v d s1 G1 H1 g o1 r q1 => ?_
    obtain ⟨l, e, q2⟩ := Post.opt (Post.bind q1 |> fun _ => (show Post Z Ex P Γ σ G1 (M.opt (dRng1 [d]) s1) (fun _ _ _ _ => True) from by
      cases e : dRng1 [d] with
      | some l => intro G' H' _ _; trivial
      | none => rw [e] at q1; exact q1.elim))
    rw [e] at q1
    cases r <;> simp only [dRng1] at e <;> try (cases e; done)
    rename_i n
    split at e
    · rename_i h
      cases e
      refine ⟨n, rfl, ⟨by omega, by omega, by omega, by omega, by omega⟩, fun p hp => ?_⟩
      have r1 := rps_rng (K := Z.K) (H := G1) 0 n
      refine q1 _ _ (same_upd (o1.base.gh.free hp)) (o1.leave (.new o1.base.gh hp)) _ (.tup upd_same ?_)
      have := r1.mono (same_upd (o := .tup (rgV 0 n)) (o1.base.gh.free hp))
      simpa using this
    · cases e
/-! ### a, b = x, y -/
def mPar (ms : M (List D)) (k : D × D → M (Out γ α)) : M (Out γ α) := M.bind ms fun ds => M.bind (M.opt (match ds with | [a, b] => some (a, b) | _ => none)) k
theorem s_par (i j : Nat) {x y : Str} {px py pt : Pos} {kt k2 pt2} {k : D × D → M (Out γ α)} [ck : Cok Z X] (ha : PA X [a, b] (rdA Z Ex Γ ms)) (hij : i ≠ j) (hr : ∀ x, PSs X rest (rdS Z Ex (up2 i j x Γ) Γm Γn (k x)))
    (hi : X.N[i]? = some x := by rfl) (hj : X.N[j]? = some y := by rfl) (hx : X.env.scope.names.lookup x = some .local := by rfl) (hy : X.env.scope.names.lookup y = some .local := by rfl)
    (hw : swappedStores [.Tuple [.Name x px, .Name y py] kt pt] (.Tuple [a, b] k2 pt2) X.env = pure (some [x, y]) := by rfl)
    (hs : swapsWithSole [.Tuple [.Name x px, .Name y py] kt pt] (.Tuple [a, b] k2 pt2) pos.line X.env = pure false := by rfl) :
    PSs X (.Assign [.Tuple [.Name x px, .Name y py] kt pt] (.Tuple [a, b] k2 pt2) pos :: rest) (rdS Z Ex Γ Γm Γn (mPar ms k)) :=
  pss_imp (pss_cons (ps_par ck.calm ck.nd hi hj hij hx hy ha hw hs) (pss_any hr)) fun Dn σ H ⟨P, s, G, hB, o, q⟩ => sA o q fun vs ds s1 G1 H1 g o1 r q1 => by
    obtain ⟨x, e, q2⟩ := PostS.opt q1
    split at e
    · rename_i a b
      cases e
      cases r with
      | cons r1 r =>
      cases r with
      | cons r2 r =>
      cases r
      exact ⟨_, _, rfl, (a, b), P, s1, G1, hB, (o1.set' i r1).set' j r2, q2⟩
    · cases e
end
end Sim
end
section
set_option Elab.async false
set_option linter.all false
set_option maxRecDepth 100000
set_option maxHeartbeats 400000
namespace Sim
open PySem PySem.Spec PyProof.Rows L2
/-! ### the threaded list, read and written -/
def mGet : M (List D) := fun s => .ok (s, s)
def mSet (s' : List D) : M Unit := fun _ => .ok ((), s')
def mIxT (ma : M D) : M D := M.bind ma fun j => M.bind mGet fun s => M.opt (dItem (.list s) j)
def mStoreT {γ α : Type} (me ma : M D) (k : M (Out γ α)) : M (Out γ α) := M.bind me fun d => M.bind ma fun j => M.bind mGet fun s => M.bind (M.opt (dPut s j d)) fun s' => M.bind (mSet s') fun _ => k
section
variable {γ α : Type} {Z : Fx} {Ex : XK} {X : Cx} {Γ : List Slot} {Γm : γ → List Slot} {Γn : α → List Slot} {rest : List Stmt} {a b e : Expr} {es : List Expr} {ms : M (List D)} {ma mb me : M D} {pos p : Pos}
theorem e_ixT (i : Nat) {y : Str} {py : Pos} [ck : Cok0 Z X] (hv : PE X (.Name y py) (tVar i)) (ha : PE X a (rdE Z Ex Γ ma)) (hG : Γ[i]? = some .thr := by rfl) (hs : PlainIx a := by exact fun _ _ => rfl) :
    PE X (.Subscript (.Name y py) a pos) (rdE Z Ex Γ (mIxT ma)) :=
  pe_imp (pe_ix (o_ix (Z := Z)) hv ha hs) fun σ H Q ⟨P, s, G, o, q⟩ => by
    obtain ⟨p, vs, e0, e1, e2, e3, e4, _⟩ := o.thread hG
    refine ⟨.ref p, e0, stepE o q fun v d s1 G1 H1 g o1 r q1 => ?_⟩
    obtain ⟨p', vs', e0', e1', e2', e3', e4', _⟩ := o1.thread hG
    rw [e0] at e0'
    cases e0'
    have q1 : Post Z Ex P Γ σ G1 (M.opt (dItem (.list s1) d) s1) _ := q1
    obtain ⟨z, e, q2⟩ := Post.opt q1
    cases r with
    | int j =>
      obtain ⟨v, c1, c2⟩ := Rps.atI e4' (show L2.atI s1 j = some z from e)
      exact .inl ⟨p, vs', j, v, rfl, rfl, .inl (.inl e3'), c1, Post.pure q2 o1 v c2⟩
    | _ => simp [dItem] at e
theorem s_storeT (i : Nat) {x : Str} {p p2 : Pos} {k : M (Out γ α)} (he : PE X e (rdE Z Ex Γ me)) (ht : PG X (.Subscript (.Name x p) a p2) (gSub (tVar i) (rdE Z Ex Γ ma) rSetL)) (hr : PSs X rest (rdS Z Ex Γ Γm Γn k)) (hg : Γ[i]? = some .thr := by rfl)
    (hs : swapsWithSole [.Subscript (.Name x p) a p2] e pos.line X.env = pure false := by rfl) (hw : swappedStores [.Subscript (.Name x p) a p2] e X.env = pure none := by rfl) (h1 : (assignEach [.Subscript (.Name x p) a p2] X.env).map (·.2) = [assign (.Subscript (.Name x p) a p2) X.env] := by rfl) :
    PSs X (.Assign [.Subscript (.Name x p) a p2] e pos :: rest) (rdS Z Ex Γ Γm Γn (mStoreT me ma k)) :=
  pss_imp (pss_cons (ps_asg he ht hs hw h1) hr) fun Dn σ H ⟨P, s, G, hB, o, q⟩ => sE o q fun v d s1 G1 H1 g o1 r q1 => by
    obtain ⟨p, vs, e0, e1, e2, e3, e4, _⟩ := o1.thread hg
    refine ⟨.ref p, e0, sE o1 q1 fun u j s2 G2 H2 g2 o2 r2 q2 => ?_⟩
    obtain ⟨p', vs', e0', e1', e2', e3', e4', c⟩ := o2.thread hg
    rw [e0] at e0'
    cases e0'
    have q2 : PostS Z Ex P G2 Γm Γn (M.bind (M.opt (dPut s2 j d)) (fun s' => M.bind (mSet s') fun _ => k) s2) Dn := q2
    obtain ⟨l', e3, q3⟩ := PostS.opt q2
    cases r2 with
    | int n =>
    simp only [dPut] at e3
    rw [Option.map_eq_some_iff] at e3
    obtain ⟨j, e4, rfl⟩ := e3
    exact ⟨p, vs', n, j, rfl, rfl, e3', by rw [e4'.length]; exact e4, P, _, G2, hB, c _ _ (Rps.set (r.mono g2) j e4'), q3⟩
    | _ => simp [dPut] at e3
/-! ### dict displays -/
theorem Ok.delO {P : Par} {G H : Hp} {s : List D} {σ : L2.St} {p : Addr} {kvs : List (Key × V)} (k : Ok Z P Γ s σ G H) (hp : H p = some (.dK kvs)) (hg : G p = none) (he : P.No p) (hb : ¬ P.B p) : Ok Z P Γ s σ G (del H p) := by
  obtain ⟨fps, h1, h2⟩ := k.sl
  have tabs : LamX.Tabs Z.T H → LamX.Tabs Z.T (del H p) := fun t x hx => by
    obtain ⟨ps, h1, h2, h3⟩ := t x hx
    refine ⟨ps, ?_, h2, fun pos cv hc => ?_⟩
    · rw [del_ne]
      · exact h1
      · intro e; rw [e, hp] at h1; cases h1
    · obtain ⟨c, e1, e2⟩ := h3 pos cv hc
      refine ⟨c, e1, ?_⟩
      rw [del_ne]
      · exact e2
      · intro e; rw [e, hp] at e2; cases e2
  refine ⟨⟨⟨k.base.lv.g, ⟨fun b o e => ?_, k.base.gh.nt⟩, k.base.lv.fr, fun b o e n => ?_, fun t => tabs (k.base.lv.tb t)⟩, fun q hq => ?_, tabs k.base.tabs⟩, fun q hq => ?_, fps, h1.mono (Same.refl _) fun q hq o e => ?_, h2⟩
  · have : b ≠ p := fun z => by rw [z, hg] at e; cases e
    rw [del_ne this]; exact k.base.gh _ _ e
  · have : b ≠ p := fun z => he o (by rw [← z]; exact e) n
    rw [del_ne this]; exact k.base.lv.st b o e n
  · have : q ≠ p := fun z => by rw [z] at hq; exact hb hq
    rw [del_ne this]; exact k.base.old q hq
  · obtain ⟨g1, ws, g2, g3⟩ := k.thr q hq
    refine ⟨g1, ws, ?_, g3⟩
    rw [del_ne]
    · exact g2
    · intro e; rw [e, hp] at g2; cases g2
  · obtain ⟨ws, e1, e2, _⟩ := h1.at q hq
    refine ⟨e2, ?_⟩
    rw [del_ne]
    · exact e
    · intro z; rw [z, hp] at e1; cases e1
theorem e_dict0 : PE X (.Dict [] [] pos) (rdE Z Ex Γ (M.pure (.dict []))) :=
  pe_imp pe_dnewK fun σ H Q ⟨P, s, G, o, q⟩ => fun p hp => q _ _ (same_upd (o.base.gh.free hp)) (o.leave (.new o.base.gh hp)) _ (.dct upd_same .nil)
def mDict1 (k : Int) (m : M D) : M D := M.bind m fun d => M.pure (.dict [(.int k, d)])
theorem e_dict1 {k : Int} {j : Nat} {p1 : Pos} (ha : PE X a (rdE Z Ex Γ ma)) : PE X (.Dict [some (.Constant (.int k) j p1)] [a] pos) (rdE Z Ex Γ (mDict1 k ma)) :=
  pe_imp (pe_disp (pps_cons pe_int ha pps_nil) rfl rfl (fun z => by cases z) (by show 1 ≤ 15; decide)) fun σ H Q ⟨P, s, G, o, q⟩ => fun p hp => by
    have o1 := o.leave (.beside (p := p) (o := .dK []) o.base.gh hp)
    have o1h := o1.here
    have gp : G p = none := o.base.gh.free hp
    refine ⟨P.here G (upd H p (.dK [])), s, G, o1h, ?_⟩
    have q' := Post.bind (Γ := Γ) (σ := σ) q
    cases e : ma s with
    | stuck => rw [e] at q'; exact q'
    | exn x =>
      rw [e] at q'
      exact fun cls dx G' H' g b er => q' cls dx G' H' g (o1.base.back b) (er.back o1.base)
    | ok r =>
      rw [e] at q'
      intro G' H' g o2 v rv
      obtain ⟨o', h1, n1, h2⟩ := o2.base.lv.st p _ upd_same nt_dK
      have hT : (P.here G (upd H p (.dK []))).thr ≠ some p := fun z => by
        obtain ⟨_, vs, c, _⟩ := o.thr p z
        rw [hp] at c; cases c
      have hd : o' = .dK [] := h2 hT
      subst hd
      have g'p : G' p = none := o2.base.lv.noG gp upd_same nt_dK
      refine ⟨h1, [(.inl k, v)], rfl, by show 1 ≤ 15; decide, ?_⟩
      have o3 : Ok Z P Γ r.2 σ G' H' := Ok.back o1.base o2
      have he : P.No p := o.base.free hp
      have o4 := o3.delO h1 g'p he (o.base.new hp)
      have ed : upd (del H' p) p (.dK [(.inl k, v)]) = upd H' p (.dK [(.inl k, v)]) := by
        funext b
        by_cases hb : b = p
        · rw [hb, upd_same, upd_same]
        · rw [upd_ne hb, upd_ne hb, del_ne hb]
      have gg : Same G' (upd G' p (.dK [(.inl k, v)])) := same_upd g'p
      have l := Leave.new (Z := Z) (thr := none) (p := p) (o := .dK [(.inl k, v)]) o4.base.gh del_same
      rw [ed] at l
      have o5 := o4.leave l
      exact (q' G' (del H' p) g o4) _ _ gg o5 (.ref p) (.dct upd_same (.cons (.int k) (rv.mono gg) .nil))
end
end Sim
end
section
set_option Elab.async false
set_option linter.all false
set_option maxRecDepth 100000
set_option maxHeartbeats 400000
namespace Sim
open PySem PySem.Spec PyProof.Rows L2
section
variable {Z : Fx} {P : Par} {G H G' H' : Hp} {Γ : List Slot} {s s' : List D} {σ : L2.St}
theorem Owns.length : ∀ {qs : List Addr} {ls : List (List D)}, Owns Z P G H qs ls → qs.length = ls.length
  | _, _, .nil => rfl
  | _, _, .cons _ _ _ _ e => by rw [List.length_cons, List.length_cons, e.length]
theorem Owns.get : ∀ {qs : List Addr} {ls : List (List D)} {i : Nat} {l : List D}, Owns Z P G H qs ls → ls[i]? = some l → ∃ q vs, qs[i]? = some q ∧ G q = none ∧ ¬ P.B q ∧ H q = some (.lst vs) ∧ Rps Z.K G vs l
  | _, _, _, _, .nil, h => by simp at h
  | _, _, 0, _, .cons a b c d _, h => by simp at h; subst h; exact ⟨_, _, rfl, a, b, c, d⟩
  | _, _, i + 1, _, .cons _ _ _ _ r, h => by
    obtain ⟨q, vs, h1, h2⟩ := Owns.get (i := i) r (by simpa using h)
    exact ⟨q, vs, by simpa using h1, h2⟩
theorem Owns.set : ∀ {qs : List Addr} {ls : List (List D)} {i : Nat} {q : Addr} {vs : List V} {l : List D}, Owns Z P G H qs ls → G q = none → ¬ P.B q → H q = some (.lst vs) → Rps Z.K G vs l → Owns Z P G H (qs.set i q) (ls.set i l)
  | _, _, _, _, _, _, .nil, _, _, _, _ => .nil
  | _, _, 0, _, _, _, .cons _ _ _ _ r, a, b, c, d => .cons a b c d r
  | _, _, i + 1, _, _, _, .cons a' b' c' d' r, a, b, c, d => .cons a' b' c' d' (Owns.set (i := i) r a b c d)
theorem Owns.append : ∀ {qs qs' : List Addr} {ls ls' : List (List D)}, Owns Z P G H qs ls → Owns Z P G H qs' ls' → Owns Z P G H (qs ++ qs') (ls ++ ls')
  | _, _, _, _, .nil, r => r
  | _, _, _, _, .cons a b c d e, r => .cons a b c d (Owns.append e r)
/-- but at one place the lists stand -/
theorem Owns.but : ∀ {qs : List Addr} {ls : List (List D)} {i : Nat} {q : Addr} {vs : List V} {l : List D}, Owns Z P G H qs ls → qs.Nodup → qs[i]? = some q → Rps Z.K G vs l → Owns Z P G (upd H q (.lst vs)) qs (ls.set i l)
  | _, _, _, _, _, _, .nil, _, h, _ => by simp at h
  | q0 :: qs, _, 0, _, _, _, .cons a b c d e, n, h, r => by
    simp at h; subst h
    refine .cons a b upd_same r (e.mono (Same.refl _) fun x hx o ho => ?_)
    have : x ≠ q0 := fun z => (List.nodup_cons.mp n).1 (z ▸ hx)
    obtain ⟨_, _, z, _⟩ := e.at x hx
    exact ⟨z, by rw [upd_ne this]; exact ho⟩
  | q0 :: qs, _, i + 1, q, _, _, .cons a b c d e, n, h, r => by
    have hq : qs[i]? = some q := by simpa using h
    have : q0 ≠ q := fun z => (List.nodup_cons.mp n).1 (z ▸ List.mem_of_getElem? hq)
    exact .cons a b (by rw [upd_ne this]; exact c) d (Owns.but (i := i) e (List.nodup_cons.mp n).2 hq r)
theorem nodup_swap {T A M M' C : List Addr} (h : (T ++ (A ++ M ++ C)).Nodup) (n : M'.Nodup) (d : ∀ x ∈ M', x ∈ M ∨ x ∉ T ++ (A ++ M ++ C)) : (T ++ (A ++ M' ++ C)).Nodup := by
  have pm : ∀ M : List Addr, (T ++ (A ++ M ++ C)).Perm (M ++ (T ++ A ++ C)) := fun M => by
    have h1 : (T ++ (A ++ M ++ C)) = (T ++ A) ++ (M ++ C) := by simp
    rw [h1]
    have h2 : M ++ (T ++ A ++ C) = (M ++ (T ++ A)) ++ C := by simp
    rw [h2]
    have h3 : (T ++ A) ++ (M ++ C) = ((T ++ A) ++ M) ++ C := by simp
    rw [h3]
    exact List.Perm.append_right _ List.perm_append_comm
  rw [(pm M').nodup_iff]
  have h0 := (pm M).nodup_iff.mp h
  obtain ⟨_, h2, h3⟩ := List.nodup_append.mp h0
  refine List.nodup_append.mpr ⟨n, h2, fun a ha b hb e => ?_⟩
  subst e
  rcases d a ha with z | z
  · exact h3 a z a hb rfl
  · apply z
    rw [(pm M).mem_iff]
    exact List.mem_append_right _ hb
theorem tabs_eq {T : List (Addr × Str)} (t : LamX.Tabs T H) (e : ∀ b, (∃ vs, H b = some (.lst vs)) ∨ H b = none ∨ H' b = H b) : LamX.Tabs T H' := fun x hx => by
  obtain ⟨ps, h1, h2, h3⟩ := t x hx
  refine ⟨ps, ?_, h2, fun pos cv hc => ?_⟩
  · rcases e x.1 with ⟨vs, z⟩ | z | z
    · rw [z] at h1; cases h1
    · rw [z] at h1; cases h1
    · rw [z]; exact h1
  · obtain ⟨c, e1, e2⟩ := h3 pos cv hc
    refine ⟨c, e1, ?_⟩
    rcases e c with ⟨vs, z⟩ | z | z
    · rw [z] at e2; cases e2
    · rw [z] at e2; cases e2
    · rw [z]; exact e2
theorem Ok.swap2 (k : Ok Z P Γ s σ G H) (hB : P.Cl) {i : Nat} {ls : List (List D)} (hi : Γ[i]? = some (.own2 ls)) : ∃ p qs, σ[i]? = some (some (.ref p)) ∧ G p = none ∧ ¬ P.B p ∧ H p = some (.lst (qs.map V.ref)) ∧ Owns Z P G H qs ls ∧ (p :: qs).Nodup ∧
    ∀ H' qs' ls', H' p = some (.lst (qs'.map V.ref)) → Owns Z P G H' qs' ls' → (p :: qs').Nodup → (∀ q ∈ qs', q ∈ qs ∨ H q = none) → (∀ b, b ≠ p → b ∉ qs → b ∉ qs' → H' b = H b) → (∀ b ∈ qs, ∃ vs, H' b = some (.lst vs)) → Ok Z P (Γ.set i (.own2 ls')) s σ G H' := by
  obtain ⟨fps, h1, h2⟩ := k.sl
  obtain ⟨v0, fp, A, B, e0, a, rfl, h4⟩ := h1.split hi
  cases a with
  | @own2 p qs ls a b c d =>
    have hne : ∀ x ∈ p :: qs, x ∉ P.thr.toList ∧ x ∉ A ++ B := fun x hx => by
      obtain ⟨_, h3, h5⟩ := List.nodup_append.mp h2
      obtain ⟨h6, h7, h8⟩ := List.nodup_append.mp h3
      obtain ⟨h9, h10, h11⟩ := List.nodup_append.mp h6
      refine ⟨fun z => h5 x z x (List.mem_append_left _ (List.mem_append_right _ hx)) rfl, fun z => ?_⟩
      rcases List.mem_append.mp z with z | z
      · exact h11 x z x hx rfl
      · exact h8 x (List.mem_append_right _ hx) x z rfl
    refine ⟨p, qs, e0, a, b, c, d, ?_, fun H' qs' ls' g1 g2 g3 g4 g5 g6 => ?_⟩
    · exact (List.nodup_append.mp (List.nodup_append.mp (List.nodup_append.mp h2).2.1).1).2.1
    have kp : ∀ q ∈ P.thr.toList ++ (A ++ B), ∀ o, H q = some o → H' q = some o := fun q hq o e => by
      have e1 : q ∉ p :: qs := fun z => by
        obtain ⟨z1, z2⟩ := hne q z
        rcases List.mem_append.mp hq with h | h
        · exact z1 h
        · exact z2 h
      rw [g5 q (fun z => e1 (by simp [z])) (fun z => e1 (by simp [z])) (fun z => ?_)]
      · exact e
      · rcases g4 q z with w | w
        · exact e1 (by simp [w])
        · rw [e] at w; cases w
    have lst : ∀ b, b = p ∨ b ∈ qs → ∃ vs, H b = some (.lst vs) ∧ G b = none ∧ ¬ P.B b := fun x hx => by
      rcases hx with rfl | hx
      · exact ⟨_, c, a, b⟩
      · exact d.at x hx
    have eqs : ∀ b o, H b = some o → (∀ vs, o = .lst vs → ¬ (G b = none ∧ ¬ P.B b)) → H' b = some o := fun x o e n => by
      rw [g5 x (fun z => ?_) (fun z => ?_) (fun z => ?_)]
      · exact e
      · obtain ⟨vs, w1, w2⟩ := lst x (.inl z)
        rw [w1] at e; cases e
        exact n vs rfl w2
      · obtain ⟨vs, w1, w2⟩ := lst x (.inr z)
        rw [w1] at e; cases e
        exact n vs rfl w2
      · rcases g4 x z with w | w
        · obtain ⟨vs, w1, w2⟩ := lst x (.inr w)
          rw [w1] at e; cases e
          exact n vs rfl w2
        · rw [e] at w; cases w
    have te : ∀ b, (∃ vs, H b = some (.lst vs)) ∨ H b = none ∨ H' b = H b := fun x => by
      by_cases h1 : x = p
      · exact .inl ⟨_, h1 ▸ c⟩
      by_cases h2 : x ∈ qs
      · obtain ⟨vs, w1, _⟩ := lst x (.inr h2)
        exact .inl ⟨vs, w1⟩
      by_cases h3 : x ∈ qs'
      · rcases g4 x h3 with w | w
        · exact absurd w h2
        · exact .inr (.inl w)
      · exact .inr (.inr (g5 x h1 h2 h3))
    refine ⟨⟨⟨k.base.lv.g, ⟨fun b o e => ?_, k.base.gh.nt⟩, k.base.lv.fr, fun b o e n => ?_, fun t => tabs_eq (k.base.lv.tb t) te⟩, fun q hq => ?_, tabs_eq k.base.tabs te⟩, fun q hq => ?_, A ++ (p :: qs') ++ B, ?_, ?_⟩
    · exact eqs b o (k.base.gh _ _ e) fun vs _ z => by rw [z.1] at e; cases e
    · obtain ⟨o', w1, w2⟩ := k.base.lv.st b o e n
      exact ⟨o', eqs b o' w1 fun vs _ z => z.2 (hB b o e n), w2⟩
    · obtain ⟨o, e, n⟩ := k.base.old q hq
      exact ⟨o, eqs q o e fun vs _ z => z.2 hq, n⟩
    · obtain ⟨w1, vs, w2, w3⟩ := k.thr q hq
      exact ⟨w1, vs, kp q (by rw [hq]; simp) _ w2, w3⟩
    · have := h4 G H' (Same.refl _) (fun q hq o e => ⟨(by
        obtain ⟨ws, e1, e2, _⟩ := h1.at q (by rcases List.mem_append.mp hq with h | h <;> simp [h])
        exact e2), kp q (List.mem_append_right _ hq) o e⟩) (.own2 ls') _ (p :: qs') (.own2 a b g1 g2)
      rw [st_set_self e0] at this
      exact this
    · refine nodup_swap h2 g3 fun x hx => ?_
      rcases List.mem_cons.mp hx with rfl | hx
      · exact .inl (by simp)
      · rcases g4 x hx with w | w
        · exact .inl (by simp [w])
        · exact .inr (k.notin w h1)
/-- the lists in a slot are read-only from now on -/
theorem owns_rps {qs : List Addr} {ls : List (List D)} (h : Owns Z P G H qs ls) (g : Same G G') (k : ∀ q ∈ qs, G' q = H q) : Rps Z.K G' (qs.map V.ref) (ls.map PyData.list) := by
  induction h with
  | nil => exact .nil
  | cons a b c d e ih => exact .cons (.lst ((k _ (by simp)).trans c) (d.mono g)) (ih fun q hq => k q (List.mem_cons_of_mem _ hq))
theorem Ok.freeze2 (k : Ok Z P Γ s σ G H) (hB : P.Cl) {i : Nat} {ls : List (List D)} (hi : Γ[i]? = some (.own2 ls)) : ∃ G', Same G G' ∧ Ok Z P (Γ.set i (.pur (.list (ls.map PyData.list)))) s σ G' H := by
  obtain ⟨fps, h1, h2⟩ := k.sl
  obtain ⟨v0, fp, A, B, e0, a, rfl, h4⟩ := h1.split hi
  cases a with
  | @own2 p qs ls a b c d =>
    have hne : ∀ x ∈ p :: qs, x ∉ P.thr.toList ∧ x ∉ A ++ B := fun x hx => by
      obtain ⟨_, h3, h5⟩ := List.nodup_append.mp h2
      obtain ⟨h6, h7, h8⟩ := List.nodup_append.mp h3
      obtain ⟨h9, h10, h11⟩ := List.nodup_append.mp h6
      refine ⟨fun z => h5 x z x (List.mem_append_left _ (List.mem_append_right _ hx)) rfl, fun z => ?_⟩
      rcases List.mem_append.mp z with z | z
      · exact h11 x z x hx rfl
      · exact h8 x (List.mem_append_right _ hx) x z rfl
    have lst : ∀ b ∈ p :: qs, ∃ vs, H b = some (.lst vs) ∧ G b = none ∧ ¬ P.B b := fun x hx => by
      rcases List.mem_cons.mp hx with rfl | hx
      · exact ⟨_, c, a, b⟩
      · exact d.at x hx
    let G' : Hp := fun x => if x ∈ p :: qs then H x else G x
    have gi : ∀ x ∈ p :: qs, G' x = H x := fun x hx => if_pos hx
    have go : ∀ x, x ∉ p :: qs → G' x = G x := fun x hx => if_neg hx
    have g : Same G G' := fun x u e => by
      by_cases h : x ∈ p :: qs
      · obtain ⟨_, _, z, _⟩ := lst x h
        rw [z] at e; cases e
      · rw [go x h]; exact e
    refine ⟨G', g, ⟨⟨k.base.lv.g.trans g, ⟨fun b o e => ?_, fun b o e => ?_⟩, fun x hx => ?_, k.base.lv.st, k.base.lv.tb⟩, k.base.old, k.base.tabs⟩, fun q hq => ?_, A ++ [] ++ B, ?_, nodup_drop h2⟩
    · by_cases h : b ∈ p :: qs
      · rw [gi b h] at e; exact e
      · rw [go b h] at e; exact k.base.gh _ _ e
    · by_cases h : b ∈ p :: qs
      · rw [gi b h] at e
        obtain ⟨_, w, _⟩ := lst b h
        rw [w] at e; cases e; exact nt_lst
      · rw [go b h] at e; exact k.base.gh.nt _ _ e
    · by_cases h : x ∈ p :: qs
      · obtain ⟨_, _, _, z⟩ := lst x h
        exact .inr (hB.no z)
      · rw [go x h] at hx; exact k.base.lv.fr x hx
    · obtain ⟨g1, ws, g2, g3⟩ := k.thr q hq
      refine ⟨?_, ws, g2, g3.mono g⟩
      rw [go q fun z => (hne q z).1 (by rw [hq]; simp)]
      exact g1
    · have := h4 G' H g (fun q hq o e => ⟨(by
        obtain ⟨ws, e1, e2, _⟩ := h1.at q (by rcases List.mem_append.mp hq with h | h <;> simp [h])
        rw [go q fun z => (hne q z).2 hq]; exact e2), e⟩) (.pur (.list (ls.map PyData.list))) (some (.ref p)) [] (.pur (.lst ((gi p (by simp)).trans c) (owns_rps d g fun q hq => gi q (List.mem_cons_of_mem _ hq))))
      rw [st_set_self e0] at this
      exact this
end
end Sim
end
section
set_option Elab.async false
set_option linter.all false
set_option maxRecDepth 100000
set_option maxHeartbeats 400000
namespace Sim
open PySem PySem.Spec PyProof.Rows L2
section
variable {Z : Fx} {Ex : XK} {P : Par} {G H G' H' : Hp} {Γ : List Slot} {s s' : List D} {σ : L2.St}
theorem Post.hereE {α : Type} {m : M α} {K : α → List D → Hp → Hp → Prop} (o : Ok Z P Γ s σ G H) (h : Post Z Ex P Γ σ G (m s) K) : Post Z Ex (P.here G H) Γ σ G (m s) fun a s' G' H' => K a s' G' H' ∧ Leave Z P.thr G H G' H' ∧ ThrOk Z P s' G' H' ∧ Ok Z P Γ s' σ G' H' := by
  cases e : m s with
  | stuck => rw [e] at h; exact h
  | exn x =>
    rw [e] at h
    exact fun cls dx G' H' g b er => h cls dx G' H' g (o.base.back b) (er.back o.base)
  | ok r =>
    rw [e] at h
    exact fun G' H' g o2 => ⟨h G' H' g (Ok.back o.base o2), o2.base.lv, o2.thr, Ok.back o.base o2⟩
theorem Leave.keep {thr : Option Addr} {p : Addr} {vs : List V} (l : Leave Z thr G H G' H') (h : H p = some (.lst vs)) (n : thr ≠ some p) : H' p = some (.lst vs) := by
  obtain ⟨o', h1, n1, h2⟩ := l.st p _ h nt_lst
  have := h2 n
  subst this
  exact h1
theorem Ok.thrNe (k : Ok Z P Γ s σ G H) {i : Nat} {g : Slot} {p : Addr} (hi : Γ[i]? = some g) (hf : ∀ v fp, SlotOk Z P G H g v fp → σ[i]? = some v → p ∈ fp) : P.thr ≠ some p := fun e => by
  obtain ⟨fps, h1, h2⟩ := k.sl
  obtain ⟨v, fp, e1, q, q2⟩ := h1.get hi
  rw [e] at h2
  simp only [Option.toList_some, List.cons_append, List.nil_append] at h2
  exact (List.nodup_cons.mp h2).1 (q2 p (hf v fp q e1))
/-- the head's own list is put into a slot -/
theorem Ok.place {p : Addr} {l : List D} (he : P.No p) {s' : List D} {i : Nat} {g : Slot} (hi : Γ[i]? = some g)
    (k' : Ok Z P (.own l :: Γ) s' (some (.ref p) :: σ) G' H') : Ok Z P (Γ.set i (.own l)) s' (σ.set i (some (.ref p))) G' H' := by
  obtain ⟨p', vs, e1, e2, e3, e4, o2⟩ := k'.delAt (i := 0) rfl (fun p e => by cases e; exact he)
  cases e1
  have := o2.tail.setL hi (p := p) (vs := vs) del_same e3
  rw [del_upd e2] at this
  exact this
theorem Ok.push2 (k : Ok Z P Γ s σ G H) (hB : P.Cl) {i : Nat} {ls : List (List D)} (hi : Γ[i]? = some (.own2 ls)) : ∃ (p : Addr) (qs : List Addr), σ[i]? = some (some (.ref p)) ∧ G p = none ∧ H p = some (.lst (qs.map V.ref)) ∧ qs.length = ls.length ∧
    ∀ r ws y, H r = none → Rps Z.K G ws y → Ok Z P (Γ.set i (.own2 (ls ++ [y]))) s σ G (upd (upd H r (.lst ws)) p (.lst (qs.map V.ref ++ [.ref r]))) := by
  obtain ⟨p, qs, e0, e1, e2, e3, e4, e5, c⟩ := k.swap2 hB hi
  refine ⟨p, qs, e0, e1, e3, e4.length, fun r ws y hr rr => ?_⟩
  have hpr : p ≠ r := fun z => by rw [z, hr] at e3; cases e3
  have hqr : ∀ q ∈ qs, q ≠ r := fun q hq z => by
    obtain ⟨_, w, _⟩ := e4.at q hq
    rw [z, hr] at w; cases w
  have hqp : ∀ q ∈ qs, q ≠ p := fun q hq z => (List.nodup_cons.mp e5).1 (z ▸ hq)
  have hq : ∀ q ∈ qs, (upd (upd H r (.lst ws)) p (.lst (qs.map V.ref ++ [.ref r]))) q = H q := fun q hq => by rw [upd_ne (hqp q hq), upd_ne (hqr q hq)]
  have e := c (upd (upd H r (.lst ws)) p (.lst (qs.map V.ref ++ [.ref r]))) (qs ++ [r]) (ls ++ [y]) (by rw [upd_same, List.map_append]; rfl)
    ((e4.mono (Same.refl _) fun q h o ho => ⟨by obtain ⟨_, _, z, _⟩ := e4.at q h; exact z, by rw [hq q h]; exact ho⟩).append (.cons (k.base.gh.free hr) (k.base.new hr) (by rw [upd_ne (fun z => hpr z.symm), upd_same]) rr .nil))
    (by
      have h1 := List.nodup_cons.mp e5
      rw [List.nodup_cons]
      refine ⟨fun z => ?_, List.nodup_append.mpr ⟨h1.2, by simp, fun a ha b hb => ?_⟩⟩
      · rcases List.mem_append.mp z with z | z
        · exact h1.1 z
        · exact hpr (by simpa using z)
      · have : b = r := by simpa using hb
        exact fun z => hqr a ha (z.trans this))
    (fun q h => by
      rcases List.mem_append.mp h with h | h
      · exact .inl h
      · have : q = r := by simpa using h
        exact .inr (this ▸ hr))
    (fun b h1 _ h3 => by rw [upd_ne h1, upd_ne fun z => h3 (by simp [z])])
    (fun b h => by rw [hq b h]; obtain ⟨vs, z, _⟩ := e4.at b h; exact ⟨vs, z⟩)
  exact e
theorem nodup_set {qs : List Addr} {r : Addr} (n : qs.Nodup) (h : r ∉ qs) (j : Nat) : (qs.set j r).Nodup := by
  induction qs generalizing j with
  | nil => exact n
  | cons q qs ih =>
    cases j with
    | zero => exact List.nodup_cons.mpr ⟨fun z => h (List.mem_cons_of_mem _ z), (List.nodup_cons.mp n).2⟩
    | succ j =>
      refine List.nodup_cons.mpr ⟨fun z => ?_, ih (List.nodup_cons.mp n).2 (fun z => h (List.mem_cons_of_mem _ z)) j⟩
      rcases List.mem_or_eq_of_mem_set z with w | w
      · exact (List.nodup_cons.mp n).1 w
      · exact h (by simp [w])
theorem Ok.put2 (k : Ok Z P Γ s σ G H) (hB : P.Cl) {i : Nat} {ls : List (List D)} (hi : Γ[i]? = some (.own2 ls)) : ∃ (p : Addr) (qs : List Addr), σ[i]? = some (some (.ref p)) ∧ G p = none ∧ H p = some (.lst (qs.map V.ref)) ∧ qs.length = ls.length ∧
    ∀ r ws y j, H r = none → Rps Z.K G ws y → j < qs.length → Ok Z P (Γ.set i (.own2 (ls.set j y))) s σ G (upd (upd H r (.lst ws)) p (.lst ((qs.map V.ref).set j (.ref r)))) := by
  obtain ⟨p, qs, e0, e1, e2, e3, e4, e5, c⟩ := k.swap2 hB hi
  refine ⟨p, qs, e0, e1, e3, e4.length, fun r ws y j hr rr hj => ?_⟩
  have hpr : p ≠ r := fun z => by rw [z, hr] at e3; cases e3
  have hqr : ∀ q ∈ qs, q ≠ r := fun q hq z => by
    obtain ⟨_, w, _⟩ := e4.at q hq
    rw [z, hr] at w; cases w
  have hqp : ∀ q ∈ qs, q ≠ p := fun q hq z => (List.nodup_cons.mp e5).1 (z ▸ hq)
  have hq : ∀ q ∈ qs, (upd (upd H r (.lst ws)) p (.lst ((qs.map V.ref).set j (.ref r)))) q = H q := fun q hq => by rw [upd_ne (hqp q hq), upd_ne (hqr q hq)]
  have hm : ∀ q ∈ qs.set j r, q ∈ qs ∨ q = r := fun q h => List.mem_or_eq_of_mem_set h
  have e := c (upd (upd H r (.lst ws)) p (.lst ((qs.map V.ref).set j (.ref r)))) (qs.set j r) (ls.set j y) (by rw [upd_same, List.map_set])
    ((e4.mono (Same.refl _) fun q h o ho => ⟨by obtain ⟨_, _, z, _⟩ := e4.at q h; exact z, by rw [hq q h]; exact ho⟩).set (k.base.gh.free hr) (k.base.new hr) (by rw [upd_ne (fun z => hpr z.symm), upd_same]) rr)
    (by
      have h1 := List.nodup_cons.mp e5
      rw [List.nodup_cons]
      refine ⟨fun z => ?_, nodup_set h1.2 (fun z => hqr r z rfl) j⟩
      rcases hm p z with z | z
      · exact h1.1 z
      · exact hpr z)
    (fun q h => by
      rcases hm q h with h | h
      · exact .inl h
      · exact .inr (h ▸ hr))
    (fun b h1 _ h3 => by rw [upd_ne h1, upd_ne fun z => h3 (by rw [z]; exact List.mem_set hj r)])
    (fun b h => by rw [hq b h]; obtain ⟨vs, z, _⟩ := e4.at b h; exact ⟨vs, z⟩)
  exact e
theorem Ok.at2 (k : Ok Z P Γ s σ G H) (hB : P.Cl) {i : Nat} {ls : List (List D)} (hi : Γ[i]? = some (.own2 ls)) : ∃ (p : Addr) (qs : List Addr), σ[i]? = some (some (.ref p)) ∧ P.thr ≠ some p ∧ G p = none ∧ H p = some (.lst (qs.map V.ref)) ∧ qs.length = ls.length ∧
    ∀ j l, ls[j]? = some l → ∃ q vs, qs[j]? = some q ∧ H q = some (.lst vs) ∧ G q = none ∧ Rps Z.K G vs l ∧ ∀ vs' l', Rps Z.K G vs' l' → Ok Z P (Γ.set i (.own2 (ls.set j l'))) s σ G (upd H q (.lst vs')) := by
  obtain ⟨p, qs, e0, e1, e2, e3, e4, e5, c⟩ := k.swap2 hB hi
  refine ⟨p, qs, e0, k.thrNe hi (fun v fp a ev => by rw [e0] at ev; cases ev; cases a with | own2 => simp), e1, e3, e4.length, fun j l hl => ?_⟩
  obtain ⟨q, vs, h1, h2, h3, h4, h5⟩ := e4.get hl
  refine ⟨q, vs, h1, h4, h2, h5, fun vs' l' rr => ?_⟩
  have hm : q ∈ qs := List.mem_of_getElem? h1
  have hqp : ∀ q ∈ qs, q ≠ p := fun q hq z => (List.nodup_cons.mp e5).1 (z ▸ hq)
  refine c (upd H q (.lst vs')) qs (ls.set j l') (by rw [upd_ne fun z => hqp q hm z.symm]; exact e3) (e4.but (List.nodup_cons.mp e5).2 h1 rr) e5 (fun _ h => .inl h) (fun b _ h _ => by rw [upd_ne (fun z => h (by rw [z]; exact hm) : b ≠ q)]) fun b hb => ?_
  by_cases z : b = q
  · rw [z, upd_same]; exact ⟨_, rfl⟩
  · rw [upd_ne z]
    obtain ⟨vs, w, _⟩ := e4.at b hb
    exact ⟨vs, w⟩
theorem Ok.own2' (k : Ok Z P Γ s σ G H) {i : Nat} {ls : List (List D)} (hi : Γ[i]? = some (.own2 ls)) : ∃ (p : Addr) (qs : List Addr), σ[i]? = some (some (.ref p)) ∧ H p = some (.lst (qs.map V.ref)) ∧ qs.length = ls.length := by
  obtain ⟨fps, h1, h2⟩ := k.sl
  obtain ⟨v, fp, e, q, _⟩ := h1.get hi
  cases q with
  | own2 a b c d => exact ⟨_, _, e, c, d.length⟩
end
section
variable {γ α : Type} {Z : Fx} {Ex : XK} {X : Cx} {Γ : List Slot} {Γm : γ → List Slot} {Γn : α → List Slot} {rest : List Stmt} {a b e : Expr} {pos : Pos} {ma me : M D} {ml ml1 ml2 : M (List D)}
theorem s_freeze2 (i : Nat) {ls : List (List D)} {m : M (Out γ α)} {sts : List Stmt} (hg : Γ[i]? = some (.own2 ls)) (hr : PSs X sts (rdS Z Ex (Γ.set i (.pur (.list (ls.map PyData.list)))) Γm Γn m)) : PSs X sts (rdS Z Ex Γ Γm Γn m) :=
  pss_imp hr fun Dn σ H ⟨P, s, G, hB, o, q⟩ => by
    obtain ⟨G', g, o'⟩ := o.freeze2 hB hg
    exact ⟨P, s, G', hB, o', q.grow g⟩
def ix2 (n : Nat) : D → Option Nat
  | .int j => ixN n j
  | _ => none
def app2 (ls : List (List D)) (n : Nat) (d : D) : Option (List (List D)) := ls[n]?.bind fun l => (dApp l d).map fun l' => ls.set n l'
def mApp2 (ls : List (List D)) (ma me : M D) (k : List (List D) → M (Out γ α)) : M (Out γ α) := M.bind ma fun j => M.bind (M.opt (ix2 ls.length j)) fun n => M.bind me fun d => M.bind (M.opt (app2 ls n d)) k
theorem atI_of_ixN {α : Type} {l : List α} {j : Int} {n : Nat} {v : α} (h : ixN l.length j = some n) (e : l[n]? = some v) : L2.atI l j = some v := by
  unfold L2.atI
  rw [h]
  exact e
theorem ixN_lt {n k : Nat} {j : Int} (h : ixN n j = some k) : k < n := by
  unfold ixN at h
  split at h <;> simp at h <;> omega
theorem s_app2 (i : Nat) {ls : List (List D)} {k : List (List D) → M (Out γ α)} (hg : Γ[i]? = some (.own2 ls)) (he : PE X e (tBM X.K "list" rAppend (tOp (rIx Z.K) (tVar i) (rdE Z Ex Γ ma)) (tCons (rdE Z Ex Γ me) tNil))) (hr : ∀ l', PSs X rest (rdS Z Ex (Γ.set i (.own2 l')) Γm Γn (k l')))
    (hs : swapsWith e none pos.line X.env = pure false := by rfl) :
    PSs X (.Expr e pos :: rest) (rdS Z Ex Γ Γm Γn (mApp2 ls ma me k)) :=
  pss_imp (pss_cons (ps_expr he hs) (pss_any hr)) fun Dn σ H ⟨P, s, G, hB, o, q⟩ => by
    obtain ⟨p, qs, e0, e1, e2⟩ := o.own2' hg
    refine ⟨.ref p, e0, sE o q fun v j s1 G1 H1 g o1 r q1 => ?_⟩
    obtain ⟨n, en, q2⟩ := PostS.opt q1
    obtain ⟨p', qs', e0', ht, e1', e2', e3', c⟩ := o1.at2 hB hg
    rw [e0] at e0'
    cases e0'
    cases r with
    | int j =>
      have en : ixN ls.length j = some n := en
      have hn : n < ls.length := ixN_lt en
      obtain ⟨qq, vs, c1, c2, c3, c4, _⟩ := c n ls[n] (List.getElem?_eq_getElem hn)
      have av : L2.atI (qs'.map V.ref) j = some (.ref qq) := atI_of_ixN (by rw [List.length_map, e3']; exact en) (by rw [List.getElem?_map, c1]; rfl)
      refine .inl ⟨p, _, j, .ref qq, rfl, rfl, .inl (.inl e2'), av, tyV_lst c2, ⟨P.here G1 H1, s1, G1, o1.here, (Post.hereE o1 (PostS.bindE q2)).mono fun d s2 G2 H2 g2 _ ⟨q3, lv, _, o2⟩ v rv => ?_⟩⟩
      obtain ⟨ls', e4, q4⟩ := PostS.opt q3
      obtain ⟨p', qs2, e0', ht', _, e2'', _, c'⟩ := o2.at2 hB hg
      rw [e0] at e0'
      cases e0'
      have hk := lv.keep e2' ht
      rw [e2''] at hk
      have hqs : qs2 = qs' := by
        have : (qs2.map V.ref) = qs'.map V.ref := by simpa using hk
        exact (List.map_inj_right (fun a b h => by cases h; rfl)).mp this
      subst hqs
      obtain ⟨q2', vs2, d1, d2, d3, d4, d5⟩ := c' n ls[n] (List.getElem?_eq_getElem hn)
      rw [c1] at d1
      cases d1
      unfold app2 at e4
      rw [List.getElem?_eq_getElem hn] at e4
      simp only [Option.bind_some, Option.map_eq_some_iff, dApp] at e4
      obtain ⟨l', e5, rfl⟩ := e4
      split at e5
      · rename_i hz
        cases e5
        exact ⟨qq, vs2, v, rfl, rfl, d2, by rw [d4.length]; exact Nat.lt_trans hz (by decide), _, P, s2, G2, hB, d5 _ _ (d4.append (.cons rv .nil)), q4⟩
      · cases e5
    | _ => cases en
def mPut2 (ls : List (List D)) (ml : M (List D)) (ma : M D) (k : List (List D) → M (Out γ α)) : M (Out γ α) := M.bind ml fun l => M.bind ma fun j => M.bind (M.opt (ix2 ls.length j)) fun n => k (ls.set n l)
/-- x[a] = a new list -/
theorem s_put2 (i : Nat) {ls : List (List D)} {x : Str} {a : Expr} {k : List (List D) → M (Out γ α)} {p p2 : Pos} (hg : Γ[i]? = some (.own2 ls)) (he : PE X e (rdL Z Ex Γ ml)) (ht : PG X (.Subscript (.Name x p) a p2) (gSub (tVar i) (rdE Z Ex Γ ma) rSetL)) (hr : ∀ l', PSs X rest (rdS Z Ex (Γ.set i (.own2 l')) Γm Γn (k l')))
    (hs : swapsWithSole [.Subscript (.Name x p) a p2] e pos.line X.env = pure false := by rfl) (hw : swappedStores [.Subscript (.Name x p) a p2] e X.env = pure none := by rfl) (h1 : (assignEach [.Subscript (.Name x p) a p2] X.env).map (·.2) = [assign (.Subscript (.Name x p) a p2) X.env] := by rfl) :
    PSs X (.Assign [.Subscript (.Name x p) a p2] e pos :: rest) (rdS Z Ex Γ Γm Γn (mPut2 ls ml ma k)) :=
  pss_imp (pss_cons (ps_asg he ht hs hw h1) (pss_any hr)) fun Dn σ H ⟨P, s, G, hB, o, q⟩ => by
    show rdL Z Ex Γ ml σ H fun v H1 => gSub (tVar i) (rdE Z Ex Γ ma) rSetL v σ H1 fun σ2 H2 => ∃ l, rdS Z Ex (Γ.set i (.own2 l)) Γm Γn (k l) Dn σ2 H2
    refine sL (C := fun v H1 => gSub (tVar i) (rdE Z Ex Γ ma) rSetL v σ H1 fun σ2 H2 => ∃ l, rdS Z Ex (Γ.set i (.own2 l)) Γm Γn (k l) Dn σ2 H2) o q fun r ws l s1 G1 H1 g o1 hr1 rr q1 => ?_
    obtain ⟨p, qs, e0, _⟩ := o1.own2' hg
    have k0 := o1.cons hr1 rr
    have ob : Ok Z P Γ s1 σ G1 (upd H1 r (.lst ws)) := k0.tail
    refine ⟨.ref p, e0, ⟨P.here G1 (upd H1 r (.lst ws)), s1, G1, ob.here, (Post.hereE ob (PostS.bindE q1)).mono fun d s2 G2 H2 g2 _ ⟨q3, lv, th, o2⟩ v rv => ?_⟩⟩
    obtain ⟨n, en, q4⟩ := PostS.opt q3
    have he : P.No r := o1.base.free hr1
    have k1 := k0.leaveT lv th
    obtain ⟨r', ws', f1, f2, f3, f4, f5⟩ := k1.delAt (i := 0) rfl (fun p e => by cases e; exact he)
    cases f1
    obtain ⟨p', qs', e0', e1', e2', e3', c⟩ := f5.tail.put2 hB hg
    rw [e0] at e0'
    cases e0'
    cases rv with
    | int j =>
      have en : ixN ls.length j = some n := en
      have hpr : p ≠ r := fun z => by rw [z, del_same] at e2'; cases e2'
      rw [del_ne hpr] at e2'
      have k2 := c r ws' l n del_same f3 (by rw [e3']; exact ixN_lt en)
      rw [del_upd f2] at k2
      exact ⟨p, _, j, n, rfl, rfl, e2', by rw [List.length_map, e3']; exact en, _, P, s2, G2, hB, k2, q4⟩
    | _ => cases en
/-! ### a, b = new list, new list -/
def mParLL (ml1 ml2 : M (List D)) (k : List D × List D → M (Out γ α)) : M (Out γ α) := M.bind ml1 fun l1 => M.bind ml2 fun l2 => k (l1, l2)
theorem s_parLL (i j : Nat) {x y : Str} {px py pt : Pos} {kt k2 pt2} {k : List D × List D → M (Out γ α)} [ck : Cok Z X] (ha : PA X [a, b] (tCons (rdL Z Ex Γ ml1) (tCons (rdL Z Ex Γ ml2) tNil))) (hij : i ≠ j) (hr : ∀ l : List D × List D, PSs X rest (rdS Z Ex ((Γ.set i (.own l.1)).set j (.own l.2)) Γm Γn (k l)))
    (hi : X.N[i]? = some x := by rfl) (hj : X.N[j]? = some y := by rfl) (hΓ : Γ[i]?.isSome = true := by rfl) (hΓ2 : Γ[j]?.isSome = true := by rfl) (hx : X.env.scope.names.lookup x = some .local := by rfl) (hy : X.env.scope.names.lookup y = some .local := by rfl)
    (hw : swappedStores [.Tuple [.Name x px, .Name y py] kt pt] (.Tuple [a, b] k2 pt2) X.env = pure (some [x, y]) := by rfl)
    (hs : swapsWithSole [.Tuple [.Name x px, .Name y py] kt pt] (.Tuple [a, b] k2 pt2) pos.line X.env = pure false := by rfl) :
    PSs X (.Assign [.Tuple [.Name x px, .Name y py] kt pt] (.Tuple [a, b] k2 pt2) pos :: rest) (rdS Z Ex Γ Γm Γn (mParLL ml1 ml2 k)) :=
  pss_imp (pss_cons (ps_par ck.calm ck.nd hi hj hij hx hy ha hw hs) (pss_any hr)) fun Dn σ H ⟨P, s, G, hB, o, q⟩ => by
    show rdL Z Ex Γ ml1 σ H fun v H1 => rdL Z Ex Γ ml2 σ H1 fun v2 H2 => ∃ v' w', [v, v2] = [v', w'] ∧ ∃ l : List D × List D, rdS Z Ex ((Γ.set i (.own l.1)).set j (.own l.2)) Γm Γn (k l) Dn ((σ.set i (some v')).set j (some w')) H2
    refine sL (C := fun v H1 => rdL Z Ex Γ ml2 σ H1 fun v2 H2 => ∃ v' w', [v, v2] = [v', w'] ∧ ∃ l : List D × List D, rdS Z Ex ((Γ.set i (.own l.1)).set j (.own l.2)) Γm Γn (k l) Dn ((σ.set i (some v')).set j (some w')) H2) o q fun r ws l1 s1 G1 H1 g o1 hr1 rr q1 => ?_
    have k0 := o1.cons hr1 rr
    have ob : Ok Z P Γ s1 σ G1 (upd H1 r (.lst ws)) := k0.tail
    refine ⟨P.here G1 (upd H1 r (.lst ws)), s1, G1, ob.here, (Post.hereE ob (PostS.bindE q1)).mono fun l2 s2 G2 H2 g2 _ ⟨q3, lv, th, o2⟩ r2 ws2 hr2 rr2 => ?_⟩
    have hne : P.No r := o1.base.free hr1
    have k1 := k0.leaveT lv th
    obtain ⟨g1, hg1⟩ := Option.isSome_iff_exists.mp hΓ
    obtain ⟨g2, hg2⟩ := Option.isSome_iff_exists.mp hΓ2
    have k2 := Ok.place hne hg1 k1
    have k3 := k2.setL (i := j) (g := g2) (by rw [List.getElem?_set_ne hij]; exact hg2) hr2 rr2
    exact ⟨_, _, rfl, (l1, l2), P, s2, G2, hB, k3, q3⟩
end
end Sim
end
section
set_option Elab.async false
set_option linter.all false
set_option maxRecDepth 100000
set_option maxHeartbeats 400000
namespace Sim
open PySem PySem.Spec PyProof.Rows L2
/-- one turn of a comprehension of new lists -/
def mTurnL {ι : Type} (bnd : D → Option ι) (fe : ι → M (List D)) (d : D) : M (List D) := M.nox (M.bind (M.opt (bnd d)) fe)
def mCompL {ι : Type} (bnd : D → Option ι) (fe : ι → M (List D)) : List D → List (List D) → M (List (List D))
  | [], acc => M.pure acc
  | d :: r, acc => M.bind (mTurnL bnd fe d) fun l => mCompL bnd fe r (acc ++ [l])
def mCompBL {ι : Type} (mi : M (List D)) (bnd : D → Option ι) (fe : ι → M (List D)) : M (List (List D)) := M.bind mi fun l => M.bind (lim l) fun l => mCompL bnd fe l []
section
variable {ι : Type} {Z : Fx} {Ex : XK} {X : Cx} {Γ : List Slot} {tg iter elt : Expr} {pos : Pos} {ix : List Nat} {g : TG} {bnd : D → Option ι} {up : ι → List Slot → List Slot}
theorem mTurnL_ok {fe : ι → M (List D)} {d : D} {s s3 : List D} {l : List D} (h : mTurnL bnd fe d s = .ok (l, s3)) : ∃ x, bnd d = some x ∧ fe x s = .ok (l, s3) := by
  unfold mTurnL M.nox at h
  split at h
  · rename_i r e
    cases h
    cases eb : bnd d with
    | none => rw [eb] at e; cases e
    | some x =>
      rw [eb] at e
      exact ⟨x, rfl, e⟩
  · cases h
theorem Ok.cons2 {P : Par} {s : List D} {σ : L2.St} {G H : Hp} (k : Ok Z P Γ s σ G H) {p : Addr} (hp : H p = none) : Ok Z P (.own2 [] :: Γ) s (some (.ref p) :: σ) G (upd H p (.lst [])) := by
  have k' : Ok Z P Γ s σ G (upd H p (.lst [])) := k.leave (.beside k.base.gh hp)
  obtain ⟨fps, h1, h2⟩ := k.sl
  have hn := k.notin hp h1
  refine ⟨k'.base, k'.thr, [p] ++ fps, .cons (.own2 (k.base.gh.free hp) (k.base.new hp) upd_same .nil) (h1.mono (Same.refl _) fun q hq o e => ?_), ?_⟩
  · obtain ⟨ws, e1, e2, _⟩ := h1.at q hq
    exact ⟨e2, by rw [upd_ne (ne_of_none e hp)]; exact e⟩
  · have := nodup_ins (T := P.thr.toList) (A := []) (B := []) (C := fps) (p := p) (by simpa using h2) (by simpa using hn)
    simpa using this
theorem Ok.notHead {P : Par} {s : List D} {σ : L2.St} {G H : Hp} {g : Slot} {v : Option V} (k : Ok Z P (g :: Γ) s (v :: σ) G H) : Ok Z P (.any :: Γ) s (v :: σ) G H := by
  have := k.drop (i := 0) rfl
  exact this
/-- the head's own lists are put into a slot -/
theorem Ok.move2 {P : Par} {s : List D} {σ : L2.St} {G H : Hp} {v : Option V} {ls : List (List D)} {i : Nat} {g : Slot} (hi : Γ[i]? = some g) (k : Ok Z P (.own2 ls :: Γ) s (v :: σ) G H) : Ok Z P (Γ.set i (.own2 ls)) s (σ.set i v) G H := by
  obtain ⟨fps, h1, h2⟩ := k.sl
  cases h1 with
  | @cons _ _ _ _ fp fps a r =>
    obtain ⟨v0, fp0, A, B, e0, _, rfl, h4⟩ := r.split hi
    refine ⟨k.base, k.thr, A ++ fp ++ B, h4 G H (Same.refl _) (fun q hq o e => ⟨(by
      obtain ⟨vs, e1, e2, _⟩ := r.at q (by rcases List.mem_append.mp hq with h | h <;> simp [h])
      exact e2), e⟩) _ _ _ a, ?_⟩
    have h3 : (P.thr.toList ++ (fp ++ (A ++ [] ++ B))).Nodup := by
      refine List.Sublist.nodup ?_ h2
      refine List.Sublist.append (List.Sublist.refl _) (List.Sublist.append (List.Sublist.refl _) ?_)
      exact List.Sublist.append (List.Sublist.append (List.Sublist.refl A) (List.nil_sublist _)) (List.Sublist.refl B)
    refine (List.Perm.nodup_iff ?_).mpr h3
    refine List.Perm.append_left _ ?_
    simp only [List.append_nil]
    rw [← List.append_assoc]
    exact List.Perm.append_right _ List.perm_append_comm
theorem tYes_then {σ : L2.St} {H : Hp} {A B : Hp → Prop} (h : A H) : tYes σ H fun b H3 => if b = true then A H3 else B H3 := by
  show if true = true then A H else B H
  exact (if_pos rfl).mpr h
theorem comp_core2 {P : Par} (hB : P.Cl) {G1 H1 : Hp} {σ : L2.St} {s1 : List D} {l : List D} {J : It} {fe : ι → M (List D)} {vs : List Nat} {Q : VK} (hup : TgUp Z.K g vs bnd up) (o1 : Ok Z P Γ s1 σ G1 H1) (it : IterOk Z J G1 l) (hl : l.length ≤ 1000000)
    (ke : ∀ ls s3 G' H' v, Same G1 G' → Ok Z P (.own2 ls :: Γ) s3 (some v :: σ) G' H' → mCompL bnd fe l [] s1 = .ok (ls, s3) → Q v H') (nst : mCompL bnd fe l [] s1 ≠ .stuck) (D : Addr) (hD : H1 D = none) :
    ∃ W : Nat → Nat → Hp → Prop, (∃ m, W 0 m (upd H1 D (.lst []))) ∧ ∀ i m H, W i m H →
  (J.stop i H ∧ Q (.ref D) H) ∨ (J.go i H ∧ ∃ Nx : Hp → Prop, (∀ H', Nx H' → ∃ m', m' < m ∧ W (i + 1) m' H') ∧ ∀ x H', J.yld i H x H' → g x (wipe σ vs) H' fun σ2 H2 => wipe σ2 vs = wipe σ vs ∧ tYes σ2 H2 fun b H3 => if b = true then ∃ x, rdL Z XF (up x (wipeS Γ vs)) (fe x) σ2 H3 fun y H4 => ∃ acc, H4 D = some (.lst acc) ∧ acc.length < sizeLine ∧ Nx (upd H4 D (.lst (acc ++ [y]))) else Nx H3) := by
  refine ⟨fun i m H' => m = l.length - i ∧ i ≤ l.length ∧ ∃ acc s' G', Same G1 G' ∧ Ok Z P (.own2 acc :: Γ) s' (some (.ref D) :: σ) G' H' ∧ acc.length ≤ i ∧ mCompL bnd fe l [] s1 = mCompL bnd fe (l.drop i) acc s', ⟨_, rfl, Nat.zero_le _, [], s1, G1, Same.refl _, o1.cons2 hD, Nat.le_refl _, rfl⟩, ?_⟩
  rintro i m H' ⟨rfl, hi', acc, s', G', g', o', ha, q'⟩
  by_cases hlt : i < l.length
  · refine .inr ⟨it.go i H' (g'.trans o'.base.gh) hlt, fun H2 => ∃ acc s' G', Same G1 G' ∧ Ok Z P (.own2 acc :: Γ) s' (some (.ref D) :: σ) G' H2 ∧ acc.length ≤ i + 1 ∧ mCompL bnd fe l [] s1 = mCompL bnd fe (l.drop (i + 1)) acc s', fun H2 h => ⟨_, by omega, rfl, hlt, h⟩, fun x H2 y => ?_⟩
    rw [List.drop_eq_getElem_cons hlt] at q'
    obtain ⟨G2, lv, hd⟩ := it.yld i H' x H2 G' g' o'.base.gh y
    have rd := hd l[i] (by simp)
    have Og := o'.leave lv
    have q0 : mCompL bnd fe (l[i] :: l.drop (i + 1)) acc s' = M.bind (mTurnL bnd fe l[i]) (fun l' => mCompL bnd fe (l.drop (i + 1)) (acc ++ [l'])) s' := rfl
    rw [q0] at q'
    unfold M.bind at q'
    cases e0 : mTurnL bnd fe l[i] s' with
    | exn x => unfold mTurnL M.nox at e0; split at e0 <;> cases e0
    | stuck => rw [e0] at q'; exact absurd q' nst
    | ok r =>
      obtain ⟨yy, s3⟩ := r
      rw [e0] at q'
      obtain ⟨x', eb, e1⟩ := mTurnL_ok e0
      have Ow := (Og.tail.wipe vs).here
      refine hup.ok Z _ _ s' _ G2 H2 x l[i] x' _ rfl Ow rd eb fun σ' o3 hw => ⟨(hw _ fun i h => h).trans (wipe_idem vs), ?_⟩
      refine tYes_then ⟨x', _, s', G2, o3, ?_⟩
      rw [e1]
      intro G5 H5 g5 o5 p ws hp rr
      have O5 := Og.leaveT (s' := s3) o5.base.lv o5.thr
      obtain ⟨D', qs, c1, c2, c3, c4, c5⟩ := O5.push2 hB (i := 0) rfl
      cases c1
      have hpD : D ≠ p := fun z => by rw [z, hp] at c3; cases c3
      refine ⟨qs.map V.ref, by rw [upd_ne hpD]; exact c3, by rw [List.length_map, c4, sizeLine_eq]; omega, acc ++ [yy], s3, G5, (g'.trans lv.g).trans g5, c5 p ws yy hp rr, by simp; omega, q'⟩
  · have e : i = l.length := by omega
    subst e
    rw [List.drop_length] at q'
    refine .inl ⟨it.stop H' (g'.trans o'.base.gh), ke _ _ _ _ _ g' o' q'⟩
/-- y = [[..] for ..] -/
theorem s_setC2 (i : Nat) {γ α : Type} {Γm : γ → List Slot} {Γn : α → List Slot} {rest : List Stmt} {y : Str} {py spos : Pos} {k : List (List D) → M (Out γ α)} {mi : M (List D)} {fe : ι → M (List D)} {scope : Scope} {own : List (Str × Nat)} [ck : Cok Z X] (hi : PI X tg iter (rdI Z Ex Γ mi)) (ok : BlkOk X.N X.env.scope scope own)
    (hg : ∀ (s : Shared) (H : Hp) (C : Addr) (cl : List (Str × Addr)) (fp : List Addr), PG (X.blk s H scope (compEnvC scope cl C X.env) fp) tg g) (ht : TgUp Z.K g (own.map (·.2)) bnd up)
    (he : ∀ (s : Shared) (H : Hp) (C : Addr) (cl : List (Str × Addr)) (fp : List Addr) (x : ι), PE (X.blk s H scope (compEnvC scope cl C X.env) fp) elt (rdL Z XF (up x (wipeS Γ (own.map (·.2)))) (fe x)))
    (hr : ∀ l, PSs X rest (rdS Z Ex (Γ.set i (.own2 l)) Γm Γn (k l)))
    (hy : X.N[i]? = some y := by rfl) (hΓ : Γ[i]?.isSome = true := by rfl) (hyl : X.env.scope.names.lookup y = some .local := by rfl)
    (hsw : swapsWith (.ListComp elt [⟨tg, iter, [], 0⟩] scope pos) (some (.Name y py)) spos.line X.env = pure true := by exact sw_true rfl rfl rfl (by decide +kernel))
    (hs : ∀ x, foldedSetIterable iter X.env x = pure x := by intro _; rfl) :
    PSs X (.Assign [.Name y py] (.ListComp elt [⟨tg, iter, [], 0⟩] scope pos) spos :: rest) (rdS Z Ex Γ Γm Γn (M.bind (mCompBL mi bnd fe) k)) :=
  pss_imp (pss_cons (ps_setLc ck.calm ck.nd hy hyl hsw hi ok hg (fun s H C cl fp => pts_nil) (fun s H C cl fp => pe_any (he s H C cl fp)) hs) (pss_any hr)) fun Dn σ H ⟨P, s, G, hB, o, q⟩ => by
    unfold mCompBL at q
    rw [M.bind_assoc] at q
    refine sI (C := fun J H1 => ∀ D, H1 D = none → _) o q fun J l s1 G1 H1 g1 o1 it q1 => fun D hD => ?_
    have hl : l.length ≤ 1000000 := by
      unfold lim at q1
      split at q1
      · assumption
      · exact q1.elim
    unfold lim at q1
    rw [if_pos hl] at q1
    have q1 : PostS Z Ex P G1 Γm Γn (M.bind (mCompL bnd fe l []) k s1) Dn := q1
    obtain ⟨g0, hg0⟩ := Option.isSome_iff_exists.mp hΓ
    refine comp_core2 (fe := fe) (Q := fun v H1 => ∃ l, rdS Z Ex (Γ.set i (.own2 l)) Γm Γn (k l) Dn (σ.set i (some v)) H1) hB ht o1 it hl (fun ls s3 G' H' v g' o' e => ?_) (fun e => ?_) D hD
    · unfold M.bind at q1
      rw [e] at q1
      exact ⟨ls, P, s3, G', hB, o'.move2 hg0, q1.grow g'⟩
    · unfold M.bind at q1
      rw [e] at q1
      exact q1
/-- x.append(y.pop(a)) -/
def mAppPop {γ α : Type} (l1 l2 : List D) (ma : M D) (k : List D × List D → M (Out γ α)) : M (Out γ α) := M.bind ma fun j => M.bind (M.opt (dPopAt l2 j)) fun r => M.bind (M.opt (dApp l1 r.1)) fun l' => k (l', r.2)
theorem s_appPop (i j : Nat) {γ α : Type} {Γm : γ → List Slot} {Γn : α → List Slot} {rest : List Stmt} {e : Expr} {ma : M D} {l1 l2 : List D} {k : List D × List D → M (Out γ α)} (hij : i ≠ j) (hg : Γ[i]? = some (.own l1)) (hg2 : Γ[j]? = some (.own l2))
    (he : PE X e (tBM X.K "list" rAppend (tVar i) (tCons (tBM X.K "list" rPopAt (tVar j) (tCons (rdE Z Ex Γ ma) tNil)) tNil))) (hr : ∀ l' : List D × List D, PSs X rest (rdS Z Ex ((Γ.set j (.own l'.2)).set i (.own l'.1)) Γm Γn (k l')))
    (hs : swapsWith e none pos.line X.env = pure false := by rfl) :
    PSs X (.Expr e pos :: rest) (rdS Z Ex Γ Γm Γn (mAppPop l1 l2 ma k)) :=
  pss_imp (pss_cons (ps_expr he hs) (pss_any hr)) fun Dn σ H ⟨P, s, G, hB, o, q⟩ => by
    obtain ⟨p, vs, e0, e1, e2⟩ := o.own hg
    obtain ⟨p2, vs2, f0, f1, f2⟩ := o.own hg2
    refine ⟨.ref p, e0, tyV_lst e1, .ref p2, f0, tyV_lst f1, sE o q fun v d s1 G1 H1 g o1 r q1 => ?_⟩
    obtain ⟨rr, e3, q2⟩ := PostS.opt q1
    obtain ⟨l', e4, q3⟩ := PostS.opt q2
    obtain ⟨p', vs', f0', f1', f2', c⟩ := o1.change hB hg2
    rw [f0] at f0'
    cases f0'
    cases r with
    | int n =>
      simp only [dPopAt] at e3
      split at e3
      · rename_i hn
        rw [Option.map_eq_some_iff] at e3
        obtain ⟨y, e5, rfl⟩ := e3
        obtain ⟨yv, e6, ry⟩ := f2'.get' e5
        have k1 := c (vs'.eraseIdx n.toNat) (l2.eraseIdx n.toNat) (f2'.eraseIdx _)
        have hx : ixN vs'.length n = some n.toNat := by
          unfold ixN
          rw [if_pos hn.1, if_pos (by rw [f2'.length]; exact hn.2.1)]
        have hz : n < 2 ^ 63 := by
          have := hn.2.1
          have := hn.2.2
          omega
        refine ⟨p2, vs', n, n.toNat, yv, rfl, rfl, f1', by omega, hz, (ixN_seq hx).1, e6, ?_⟩
        obtain ⟨p'', vs'', g0', g1', g2', c'⟩ := k1.change (i := i) hB (by rw [List.getElem?_set_ne hij.symm]; exact hg)
        rw [e0] at g0'
        cases g0'
        unfold dApp at e4
        split at e4
        · rename_i hz
          cases e4
          exact ⟨p, vs'', yv, rfl, rfl, g1', by rw [g2'.length]; exact Nat.lt_trans hz (by decide), (l1 ++ [y], l2.eraseIdx n.toNat), P, s1, G1, hB, c' _ _ (g2'.append (.cons ry .nil)), q3⟩
        · cases e4
      · cases e3
    | _ => cases e3
end
end Sim
end
section
set_option Elab.async false
set_option linter.all false
set_option maxRecDepth 100000
set_option maxHeartbeats 400000
namespace Sim
open PySem PySem.Spec PyProof.Rows L2
section
variable {Z : Fx} {Ex : XK} {X : Cx} {Γ : List Slot} {e : Expr}
theorem e_stuck : PE X e (rdE Z Ex Γ M.stuck) := ⟨fun pins s σ H Q I ⟨P, s', G, o, q⟩ => q.elim⟩
end
end Sim
end
section
set_option Elab.async false
set_option linter.all false
set_option maxRecDepth 100000
set_option maxHeartbeats 400000
namespace Sim
open PySem PySem.Spec PyProof.Rows L2
/-! ### where an except clause stands -/
instance {Z : Fx} {X : Cx} [ck : Cok0 Z X] {a : Addr} {pn : List (Addr × Obj)} : Cok0 Z (X.suite a pn) := ⟨ck.K, ck.mg, ck.nd, ck.hu⟩
instance {Z : Fx} {X : Cx} [ck : Cok Z X] {pn : List (Addr × Obj)} {xe : Value → Shared → Prop} : Cok Z (X.tr pn xe) := { K := ck.K, mg := ck.mg, nd := ck.nd, hu := ck.hu, calm := ck.calm }
theorem pss_len {X : Cx} {sts : List Stmt} {t : TS} (h : PSs X sts t) : PSs X sts (fun Dn σ H => σ.length = X.N.length → t Dn σ H) := ⟨fun pins s σ H Dn I q => h.run pins s σ H Dn I (q I.len)⟩
theorem pss_ex {X : Cx} {sts : List Stmt} {p : Prop} {t : TS} (h : p → PSs X sts t) : PSs X sts (fun Dn σ H => p ∧ t Dn σ H) := ⟨fun pins s σ H Dn I q => (h q.1).run pins s σ H Dn I q.2⟩
/-- what c names: an own class, or a class of the language -/
def NmV (mg : Str → Option Value) (c : Str) (cv : Value) : Prop := (∃ C, mg c = some (.ref C) ∧ cv = .ref C) ∨ (∃ n, mg c = none ∧ bootBuiltins c = some (.type n) ∧ c ≠ "__name__" ∧ cv = .type n)
/-- what is said of an error class -/
structure ErrC (K : PySem.W.Frag) (mg : Str → Option Value) (C : Addr) (nm : Str) (sub : Str → Str → Option Bool) (fld : Str → Bool) : Prop where
  gC : mg nm = some (.ref C)
  ec : ExcC K C
  is : ∀ c b, sub nm c = some b → ∃ cv, NmV mg c cv ∧ PySem.W.kitOne K (.ref C) cv = some b
  no : ∀ f, fld f = true → PySem.W.findIn K (.ref C) f = some none
theorem pe_nm {X : Cx} {c : Str} {cv : Value} {p : Pos} (h : NmV X.mg c cv) (hg : Gl X c) (hd : (c == ("__debug__" : Str)) = false) : ∃ v, PE X (.Name c p) (tC v) ∧ ∀ u, RelV v u → u = cv := by
  rcases h with ⟨C, h1, rfl⟩ | ⟨n, h1, h2, h3, rfl⟩
  · exact ⟨.ref C, pe_glob hg h1 rfl hd, fun u r => r⟩
  · exact ⟨.ty n, pe_bltn hg h1 h2 rfl h3 hd, fun u r => r⟩
/-- isinstance(e, c), e the error that the suite holds -/
def rIsE2 (K : PySem.W.Frag) (D a : Addr) (dx : Option Addr) : List V → Hp → VK → Prop := fun xs H Q => ∃ (c : V) (cv : Value) (b : Bool), xs = [.ref a, c] ∧ (∀ u, RelV c u → u = cv) ∧ PySem.W.kitOne K (.ref D) cv = some b ∧ (dx = none ∨ ∃ d fs, dx = some d ∧ H d = some (.xd fs)) ∧ Q (.bl b) H
theorem call_isE2 {X : Cx} {a D : Addr} {oe : Obj} {dx : Option Addr} {pn : List (Addr × Obj)} (C : ExcC X.K D) (hz : Zc (.ref D) dx oe) (hf : ∃ vs, oe.data = .fields vs) : CallR (X.suite a ((a, oe) :: pn)) (.builtin "isinstance") (rIsE2 X.K D a dx) := by
  intro pins s σ H xs us Q I r h
  obtain ⟨c, cv, b, rfl, hcv, e, hd, q⟩ := h
  cases r with
  | cons rx rr =>
    cases rr with
    | cons rt rr =>
      cases rr
      cases rx
      have ec := hcv _ rt
      subst ec
      obtain ⟨hget, _⟩ := I.pin (a, oe) (List.mem_append.mpr (.inl List.mem_cons_self))
      obtain ⟨vs, hv⟩ := hf
      have J : ∃ od, PySem.W.InstAt s.heap a oe D od := by
        obtain ⟨oc, od, oda, osl⟩ := oe
        obtain ⟨h1, h2⟩ := hz
        dsimp only at h1 h2 hv
        subst h1 h2 hv
        rcases hd with rfl | ⟨d, fs, rfl, hd⟩
        · exact ⟨none, hget, rfl, rfl, trivial⟩
        · obtain ⟨_, ⟨o, _, _, ho, _⟩, _⟩ := I.hok _ _ hd
          exact ⟨some o, hget, rfl, rfl, ho⟩
      obtain ⟨od, J⟩ := J
      obtain ⟨cd, hc, _⟩ := PySem.W.any_some C.hd
      exact PySem.W.kia_one (PySem.W.kitx_exc (by rw [hc]; rfl) C.hg C.hk C.hs C.ha C.hn C.ht C.hm) I.kIn J e (fun z => nomatch z) fun tk => ⟨.bl b, H, I.kept (t' := tk) fun _ _ z => z, rfl, q⟩
theorem ErrOk.dict {K : PySem.W.Frag} {G : Hp} {dx : Option Addr} {as : List (Str × D)} (h : ErrOk K G dx as) {H : Hp} (g : Same G H) : dx = none ∨ ∃ d fs, dx = some d ∧ H d = some (.xd fs) := by
  rcases h with ⟨_, h⟩ | ⟨d, fs, h1, h2, _⟩
  · exact .inl h
  · exact .inr ⟨d, fs, h1, g _ _ h2⟩
section
variable {Z : Fx} {Ex : XK} {X : Cx} {Γ : List Slot} {pos : Pos}
theorem Ok.err {P : Par} {s : List D} {σ : L2.St} {G H : Hp} (k : Ok Z P Γ s σ G H) {i : Nat} {a : Addr} {dx : Option Addr} {as : List (Str × D)} (hi : Γ[i]? = some (.err a dx as)) : σ[i]? = some (some (.ref a)) ∧ ErrOk Z.K G dx as := by
  obtain ⟨fps, h1, _⟩ := k.sl
  obtain ⟨v, fp, e, q, _⟩ := h1.get hi
  cases q with
  | err r => exact ⟨e, r⟩
theorem b_isE (i : Nat) {a : Addr} {oe : Obj} {dx : Option Addr} {pn : List (Addr × Obj)} {C : Addr} {nm : Str} {as : List (Str × D)} {sub : Str → Str → Option Bool} {fld : Str → Bool} {x y c : Str} {p p1 p2 : Pos} [ck : Cok0 Z X] (E : ErrC Z.K Z.mg C nm sub fld) (hz : Zc (.ref C) dx oe) (hf : ∃ vs, oe.data = .fields vs)
    (hv : PE (X.suite a ((a, oe) :: pn)) (.Name y p1) (tVar i)) (hm : Z.mg "isinstance" = none) (hG : Γ[i]? = some (.err a dx as) := by rfl) (hx : x = "isinstance" := by rfl) (hg : Gl X x := by rfl) (hg2 : Gl X c := by rfl) (hd : (c == ("__debug__" : Str)) = false := by decide)
    (hs : starEach [.Name y p1, .Name c p2] X.env = (false, eval (.Name y p1) X.env) :: starEach [.Name c p2] X.env := by rfl) (hpl : (backTo pos (starEach [.Name c p2] X.env)).any (·.1) = false := by rfl) :
    PE (X.suite a ((a, oe) :: pn)) (.Call (.Name x p) [.Name y p1, .Name c p2] [] pos) (rdB Z Ex Γ (M.opt (sub nm c))) := by
  subst hx
  cases hb : sub nm c with
  | none => exact ⟨fun pins s σ H Q I ⟨P, s', G, o, q⟩ => q.elim⟩
  | some b =>
    obtain ⟨cv, h1, h2⟩ := E.is c b hb
    obtain ⟨v, hp, hr⟩ := pe_nm (X := X.suite a ((a, oe) :: pn)) (p := p2) (by rw [← ck.mg] at h1; exact h1) hg2 hd
    have ec : ExcC X.K C := by rw [ck.K]; exact E.ec
    refine pe_imp (pe_callB (call_isE2 (pn := pn) (a := a) ec hz hf) hg (by show X.mg "isinstance" = none; rw [ck.mg]; exact hm) (by decide +kernel) (pa_cons hv (pa_cons hp pa_nil) hs) (by decide) (by decide) hs hpl) fun σ H Q ⟨P, s, G, o, q⟩ => ?_
    obtain ⟨e0, e1⟩ := o.err hG
    exact ⟨.ref a, e0, v, cv, b, rfl, hr, by rw [ck.K]; exact h2, e1.dict o.base.gh.s, Post.pure q o⟩
theorem Rpf.look {K : PySem.W.Frag} {G : Hp} {f : Str} : ∀ {fs : List (Str × V)} {as : List (Str × D)} {d : D}, Rpf K G fs as → as.lookup f = some d → ∃ v, fs.lookup f = some v ∧ Rp K G v d
  | _, _, _, .nil, h => by cases h
  | _, _, _, @Rpf.cons _ _ x v d vs ds a r, h => by
    by_cases e : (f == x) = true
    · simp only [List.lookup, e] at h ⊢
      cases h
      exact ⟨v, rfl, a⟩
    · have e' : (f == x) = false := by simpa using e
      simp only [List.lookup, e'] at h ⊢
      exact Rpf.look r h
/-- e.f, e the error that the suite holds -/
theorem e_fld (i : Nat) {a : Addr} {oe : Obj} {dx : Option Addr} {pn : List (Addr × Obj)} {C : Addr} {nm : Str} {as : List (Str × D)} {sub : Str → Str → Option Bool} {fld : Str → Bool} {y f : Str} {p1 : Pos} [ck : Cok0 Z X] (E : ErrC Z.K Z.mg C nm sub fld) (hz : Zc (.ref C) dx oe) (hf : ∃ vs, oe.data = .fields vs)
    (hv : PE (X.suite a ((a, oe) :: pn)) (.Name y p1) (tVar i)) (hfl : fld f = true := by rfl) (hG : Γ[i]? = some (.err a dx as) := by rfl) (hb : attributeBase (.Name y p1) f X.env (eval (.Name y p1) X.env) = eval (.Name y p1) X.env := by rfl) :
    PE (X.suite a ((a, oe) :: pn)) (.Attribute (.Name y p1) f pos) (rdE Z Ex Γ (M.opt (as.lookup f))) := by
  have T : XfC X.K C := by rw [ck.K]; exact ⟨E.ec.hg, E.ec.hk, E.ec.hs, E.ec.hd⟩
  refine pe_imp (pe_xf T (by rw [ck.K]; exact E.no f hfl) hz hf hv hb) fun σ H Q ⟨P, s, G, o, q⟩ => ?_
  obtain ⟨e0, e1⟩ := o.err hG
  obtain ⟨d, e, q1⟩ := Post.opt q
  rcases e1 with ⟨rfl, _⟩ | ⟨dd, fs, h1, h2, h3⟩
  · cases e
  · obtain ⟨v, h4, h5⟩ := h3.look e
    exact ⟨.ref a, e0, rfl, rfl, dd, fs, v, h1, o.base.gh.s _ _ h2, h4, Post.pure q1 o v h5⟩
end
/-! ### x.count(e), x.index(e), flat -/
theorem count_vals {y : V} : ∀ {ys : List V} {us : List Value}, Vals ys us → ys.all flatV = true → us.countP (eqU y) = ys.countP fun z => eqV z y
  | _, _, .nil, _ => rfl
  | z :: ys, u :: us, .cons r t, f => by
    rw [List.all_cons, Bool.and_eq_true] at f
    rw [List.countP_cons, List.countP_cons, count_vals t f.2, eqU_of r f.1]
def rCntF (K : PySem.W.Frag) : V → List V → Hp → VK → Prop := fun x xs H Q => ∃ (a : Addr) (ys : List V) (y : V), x = V.ref a ∧ xs = [y] ∧ SqL K H a ys ∧ flatV y = true ∧ ys.all flatV = true ∧ Q (.int (ys.countP fun z => eqV z y : Nat)) H
theorem mt_countF {X : Cx} : MtR X "list.count" (rCntF X.K) := by
  intro pins s σ H x xs v us Q I rx rxs h
  obtain ⟨a, ys, y, rfl, rfl, hs, fy, fys, q⟩ := h
  cases rx
  cases rxs with
  | cons ry rt =>
    rename_i uy ut
    cases rt
    obtain ⟨its, rv, ⟨⟨cls, dd, data, sl⟩, n, ho, hc, hdn, hd⟩, hlen⟩ := I.list hs
    simp only at hc hd
    subst hc hd
    refine call_meets PySem.F.slot_list_count ⟨_, ho, rfl⟩ PySem.F.entry_list_count (PySem.F.args_list_count_2 _ _)
      (SeqAt.list_countAt a its.toArray n dd sl uy (eqU y)) ⟨ho, fun u' hu' => mem_eqAt ry fy rv fys u' (by simpa using hu'), ?_⟩
    have ec : its.toArray.toList.countP (eqU y) = ys.countP fun z => eqV z y := count_vals rv fys
    refine ⟨.int (ys.countP fun z => eqV z y : Nat), H, I.tok _, ⟨s.toks, ?_⟩, q⟩
    show Value.int ((its.toArray.toList.countP (eqU y) : Nat) : Int) s.toks = Value.int ((ys.countP fun z => eqV z y : Nat) : Int) s.toks
    rw [ec]
end Sim
end
section
set_option Elab.async false
set_option linter.all false
set_option maxRecDepth 100000
set_option maxHeartbeats 1000000
namespace Sim
open PySem PySem.Spec PyProof.Rows L2
section
variable {Z : Fx} {Ex : XK} {X : Cx} {Γ : List Slot} {pos : Pos}
/-! ### counts -/
def dCount (l : List D) (d : D) : Option D := if flatD d && l.all flatD then some (.int (l.countP fun z => PyData.eqv z d : Nat)) else none
def dIndex (l : List D) (d : D) : Option D := if flatD d && l.all flatD then (l.findIdx? fun z => PyData.eqv z d).map fun j => .int (j : Nat) else none
theorem Rps.countV {K : PySem.W.Frag} {H : Hp} {v : V} {d : D} (h : Rp K H v d) (f : flatD d = true) : ∀ {vs : List V} {ds : List D}, Rps K H vs ds → ds.all flatD = true → vs.countP (fun z => eqV z v) = ds.countP fun z => PyData.eqv z d
  | _, _, .nil, _ => rfl
  | _, _, .cons a r, g => by
    rw [List.all_cons, Bool.and_eq_true] at g
    rw [List.countP_cons, List.countP_cons, Rps.countV h f r g.2, a.eqv h g.1 f]
theorem e_countOwn (i : Nat) {l : List D} {e : Expr} {me : M D} (he : PE X e (tBM X.K "list" (rCntF X.K) (tVar i) (tCons (rdE Z Ex Γ me) tNil))) (hG : Γ[i]? = some (.own l) := by rfl) : PE X e (rdE Z Ex Γ (M.bind me fun d => M.opt (dCount l d))) :=
  pe_imp he fun σ H Q ⟨P, s, G, o, q⟩ => by
    obtain ⟨p, vs, e0, e1, e2⟩ := o.own hG
    refine ⟨.ref p, e0, tyV_lst e1, stepE o q fun v d s1 G1 H1 g o1 r q1 => ?_⟩
    obtain ⟨p', vs', e0', e1', e2'⟩ := o1.own hG
    rw [e0] at e0'
    cases e0'
    obtain ⟨z, e, q2⟩ := Post.opt q1
    unfold dCount at e
    split at e
    · rename_i hf
      rw [Bool.and_eq_true] at hf
      cases e
      refine ⟨p, vs', v, rfl, rfl, .inl (.inl e1'), r.flat hf.1, e2'.flat hf.2, ?_⟩
      rw [Rps.countV r hf.1 e2' hf.2]
      exact Post.pure q2 o1 _ (.int _)
    · cases e
theorem e_indexOwn (i : Nat) {l : List D} {e : Expr} {me : M D} (he : PE X e (tBM X.K "list" (rIndex X.K) (tVar i) (tCons (rdE Z Ex Γ me) tNil))) (hG : Γ[i]? = some (.own l) := by rfl) : PE X e (rdE Z Ex Γ (M.bind me fun d => M.opt (dIndex l d))) :=
  pe_imp he fun σ H Q ⟨P, s, G, o, q⟩ => by
    obtain ⟨p, vs, e0, e1, e2⟩ := o.own hG
    refine ⟨.ref p, e0, tyV_lst e1, stepE o q fun v d s1 G1 H1 g o1 r q1 => ?_⟩
    obtain ⟨p', vs', e0', e1', e2'⟩ := o1.own hG
    rw [e0] at e0'
    cases e0'
    obtain ⟨z, e, q2⟩ := Post.opt q1
    unfold dIndex at e
    split at e
    · rename_i hf
      rw [Bool.and_eq_true] at hf
      rw [Option.map_eq_some_iff] at e
      obtain ⟨j, e, rfl⟩ := e
      rw [List.findIdx?_eq_some_iff_getElem] at e
      obtain ⟨hj, h1, h2⟩ := e
      obtain ⟨w, c1, c2⟩ := e2'.get' (List.getElem?_eq_getElem hj)
      have fl : ∀ {k : Nat} {y : D}, l[k]? = some y → flatD y = true := fun h => List.all_eq_true.mp hf.2 _ (List.mem_of_getElem? h)
      refine ⟨p, vs', v, j, w, rfl, rfl, .inl (.inl e1'), r.flat hf.1, e2'.flat hf.2, c1, ?_, fun m z' hm hz => ?_, Post.pure q2 o1 _ (.int _)⟩
      · rw [c2.eqv r (fl (List.getElem?_eq_getElem hj)) hf.1]
        exact h1
      · obtain ⟨y, d1, d2⟩ := e2'.get hz
        rw [d2.eqv r (fl d1) hf.1]
        obtain ⟨hk, d3⟩ := List.getElem?_eq_some_iff.mp d1
        have := h2 m hm
        rw [d3] at this
        simpa using this
    · cases e
/-! ### the lambda's part -/
def noThr1 : Slot → Slot
  | .thr => .any
  | g => g
def noThr (Γ : List Slot) : List Slot := Γ.map noThr1
theorem noThr_sl {P P' : Par} {G H : Hp} (hB : ∀ b, ¬ P.B b → ¬ P'.B b) : ∀ {Γ : List Slot} {σ : L2.St} {fps : List Addr}, SlotsOk Z P G H Γ σ fps → SlotsOk Z P' G H (noThr Γ) σ fps
  | _, _, _, .nil => .nil
  | _, _, _, .cons a r => by
    refine .cons ?_ (noThr_sl hB r)
    have conv : ∀ {qs : List Addr} {ls : List (List D)}, Owns Z P G H qs ls → Owns Z P' G H qs ls := by
      intro qs ls o
      induction o with
      | nil => exact .nil
      | cons a b c d _ ih => exact .cons a (hB _ b) c d ih
    cases a with
    | any => exact .any
    | pur r => exact .pur r
    | own a b c d => exact .own a (hB _ b) c d
    | own2 a b c d => exact .own2 a (hB _ b) c (conv d)
    | thr e => exact .any
    | err e => exact .err e
    | scr e => exact .scr e
theorem Ok.noThr {P : Par} {s s' : List D} {σ : L2.St} {G H : Hp} (k : Ok Z P Γ s σ G H) : Ok Z { P.here G H with thr := none } (noThr Γ) s' σ G H := by
  obtain ⟨fps, h1, h2⟩ := k.sl
  refine ⟨⟨.refl k.base.gh, k.base.old, k.base.tabs⟩, fun p hp => (nomatch hp), fps, noThr_sl (P := P) (P' := { P.here G H with thr := none }) (fun b hb => hb) h1, ?_⟩
  exact (List.nodup_append.mp h2).2.1
theorem Ok.anys {P : Par} {s : List D} {σ : L2.St} {G H : Hp} {n : Nat} (hn : σ.length = n) (b : Base Z P G H) (t : ThrOk Z P s G H) : Ok Z P (List.replicate n .any) s σ G H := by
  refine ⟨b, t, [], ?_, by cases P.thr <;> simp⟩
  subst hn
  clear t b
  induction σ with
  | nil => exact .nil
  | cons v σ ih => exact .cons (fp := []) .any ih
theorem Ok.setErr {P : Par} {s : List D} {σ : L2.St} {G H : Hp} (k : Ok Z P Γ s σ G H) {i : Nat} {g : Slot} (hi : Γ[i]? = some g) {a : Addr} {dx : Option Addr} {as : List (Str × D)} (r : ErrOk Z.K G dx as) : Ok Z P (Γ.set i (.err a dx as)) s (σ.set i (some (.ref a))) G H := by
  obtain ⟨fps, h1, h2⟩ := k.sl
  obtain ⟨v0, fp, A, B, _, _, rfl, h4⟩ := h1.split hi
  refine ⟨k.base, k.thr, A ++ [] ++ B, h4 G H (Same.refl _) (fun q hq o e => ⟨?_, e⟩) _ _ _ (.err r), nodup_drop h2⟩
  obtain ⟨vs, e1, e2, _⟩ := h1.at q (by rcases List.mem_append.mp hq with h | h <;> simp [h])
  exact e2
end
/-- what a caught error gives -/
def mSaid {γ α : Type} (word : Str) (known : Exn → Bool) (ms : Exn → M (Out γ α)) (m : M D) : M D := fun s => match m [] with
  | .ok (d, _) => .ok (.tuple [.str word, d], s)
  | .exn x => if known x then M.nox (retD (ms x)) s else .stuck
  | .stuck => .stuck
def SaidX {γ α : Type} (Z : Fx) (Γm : γ → List Slot) (Γn : α → List Slot) (known : Exn → Bool) (ms : Exn → M (Out γ α)) (Q : VK) : XK := fun cls dx H' => ∃ (xn : Exn) (P : Par) (s : List D) (G : Hp), known xn = true ∧ Z.mg xn.name = some cls ∧ ErrOk Z.K G dx xn.args ∧ P.Cl ∧ Base Z P G H' ∧ ThrOk Z P s G H' ∧ PostS Z XF P G Γm Γn (ms xn s) { nx := fun _ H' => Q .non H', rt := Q }
def TTs {γ α : Type} (Z : Fx) (word : Str) (Γm : γ → List Slot) (Γn : α → List Slot) (known : Exn → Bool) (ms : Exn → M (Out γ α)) : (XK → Hp → VK → Prop) → Hp → VK → Prop := fun tl H Q =>
  ∃ Ech : XK, (∀ cls dx H', Ech cls dx H' → SaidX Z Γm Γn known ms Q cls dx H') ∧ tl Ech H fun v H1 => 2 ≤ sizeLine ∧ ∀ p, H1 p = none → Q (.ref p) (upd H1 p (.tup [.str word, v]))
/-- what is known of the errors that the clause catches -/
def Catch (K : PySem.W.Frag) (mg : Str → Option Value) (CF : Addr) (known : Exn → Bool) (sub : Str → Str → Option Bool) (fld : Str → Bool) : Prop :=
  ∀ x, known x = true → ∃ C, ErrC K mg C x.name sub fld ∧ PySem.W.exmOne K (.ref C) (.ref CF) = some true
section
variable {γ α : Type} {Z : Fx} {X : Cx} {Γm : γ → List Slot} {Γn : α → List Slot}
theorem said_gives {Ng : List Str} {x a n exc q word : Str} {sg : Scope} {g CF : Addr} {cdg : Value} {i j : Nat} {known : Exn → Bool} {sub : Str → Str → Option Bool} {fld : Str → Bool} {ms : Exn → M (Out γ α)} {b₀ : Stmt} {suite : List Stmt} {x3 p1 p2 p3 p4 p5 p6 p7 p8} [ck : Cok Z X]
    (hCF : Z.mg exc = some (.ref CF)) (hc : Catch Z.K Z.mg CF known sub fld) (hN : Ng.Nodup) (hi : Ng[i]? = some n) (hln : sg.names.lookup n = some .local) (hge : sg.names.lookup exc = some .globalImplicit) (hde : (exc == ("__debug__" : Str)) = false) (h0 : ∀ f : Addr, (L2.start Ng [V.ref f])[0]? = some (some (V.ref f))) (hr : Room 2 X.A)
    (hm : ∀ a, (Γm a).set i .any = Γm a) (hn : ∀ a, (Γn a).set i .any = Γn a)
    (hsu : ∀ (s : Shared) (H : Hp) (a' : Addr) (oe : Obj) (dx : Option Addr) (pn : List (Addr × Obj)) (C : Addr) (xn : Exn), Cok0 Z (cxOf C8.CX0 X.prog X.w X.K X.mg X.base Ng x sg g cdg X.A X.stack s H C8.E0).nox → known xn = true → ErrC Z.K Z.mg C xn.name sub fld → Zc (.ref C) dx oe → (∃ vs, oe.data = .fields vs) →
      PSs ((cxOf C8.CX0 X.prog X.w X.K X.mg X.base Ng x sg g cdg X.A X.stack s H C8.E0).nox.suite a' ((a', oe) :: pn)) (b₀ :: suite) (rdS Z XF ((List.replicate Ng.length .any).set i (.err a' dx xn.args)) Γm Γn (ms xn))) :
    LamX.GivesTo X Ng x sg g cdg [.Try [.Return (some (.Tuple [.Constant (.str word) j p5, .Call (.Name a p1) [] [] p2] x3 p3)) p4] [.ExceptHandler (some (.Name exc p6)) (some n) (b₀ :: suite) p7] [] [] p8] a q (TTs Z word Γm Γn known ms) := by
  intro f c' s H Q tl act hcc h
  obtain ⟨Ech, hE, ht⟩ := h
  let Y : Cx := (cxOf C8.CX0 X.prog X.w X.K X.mg X.base Ng x sg g cdg X.A X.stack s H C8.E0).nox
  have hgl : Gl Y exc := hge
  have cy : Cok0 Z Y := ⟨ck.K, ck.mg, hN, by
    have := hr.un
    show X.A.units + 3 + 66 < cLine
    omega⟩
  refine ⟨_, pss_one (ps_try_as (X := Y) (c := .ref CF) (i := i) (n := n)
      (tb := fun W D σ H => ∃ Ech : XK, (∀ cls d σ' H', Ech cls d H' → W cls d σ' H') ∧ σ[0]? = some (some (.ref f)) ∧ H c' = some (LamX.CodeO c' q) ∧ tl Ech H fun v H1 => 2 ≤ sizeLine ∧ ∀ p, H1 p = none → D.rt (.ref p) (upd H1 p (.tup [.str word, v])))
      (ts := fun a' cls dx Dn σ H => ∃ xn : Exn, (known xn = true ∧ ∃ C, cls = .ref C ∧ ErrC Z.K Z.mg C xn.name sub fld) ∧ (σ.length = Y.N.length → rdS Z XF ((List.replicate Ng.length .any).set i (.err a' dx xn.args)) Γm Γn (ms xn) Dn σ H))
      rfl rfl hN hi hln ⟨hgl, hde, .inl (by show X.mg exc = _; rw [ck.mg]; exact hCF)⟩ LamX.takes0 (fun W pn xe tk _ => ?_) (fun a' oe cls dx pn hz hf => ?_)), ?_⟩
  · refine ⟨fun pins s' σ H' D I h' => ?_⟩
    obtain ⟨Ech, hW, h1, h2, h3⟩ := h'
    have hp := act W pn xe Ech p1 p2 tk hW
    have hq : PSs (Y.tr pn xe) [.Return (some (.Tuple [.Constant (.str word) j p5, .Call (.Name a p1) [] [] p2] x3 p3)) p4] _ := pss_one (ps_ret (pe_tup (pa_cons pe_str (pa_cons hp pa_nil))))
    exact hq.run pins s' σ H' D I ⟨h1, h2, h3⟩
  · exact pss_any fun xn => pss_ex fun ⟨hk, C, e, E⟩ => pss_len (by
      subst e
      exact hsu s H a' oe dx pn C xn cy hk E hz hf)
  · refine ⟨Ech, fun cls dx σ' H' hx => ?_, h0 f, hcc, ht⟩
    obtain ⟨xn, P, s', G, k1, k2, k3, k4, k5, k6, k7⟩ := hE cls dx H' hx
    obtain ⟨C, E, hcat⟩ := hc xn k1
    have ec : cls = .ref C := by
      have := E.gC
      rw [k2] at this
      exact Option.some.inj this
    subst ec
    refine ⟨true, by show PySem.W.exmOne X.K _ _ = _; rw [ck.K]; exact hcat, fun _ a' ha' => ⟨xn, ⟨k1, C, rfl, E⟩, fun hl => ?_⟩, fun z => (nomatch z)⟩
    have hl' : σ'.length = Ng.length := by
      rw [List.length_set] at hl
      exact hl
    have hlt : i < Ng.length := (List.getElem?_eq_some_iff.mp hi).1
    have o := (Ok.anys hl' k5 k6).setErr (i := i) (g := .any) (by rw [List.getElem?_replicate]; simp [hlt]) (a := a') k3
    exact ⟨P, s', G, k4, o, k7⟩
end
end Sim
end
section
set_option Elab.async false
set_option linter.all false
set_option maxRecDepth 100000
set_option maxHeartbeats 1000000
namespace Sim
open PySem PySem.Spec PyProof.Rows L2
theorem ext_leave {Z : Fx} {G H H1 : Hp} (gh : Sv G H) (e : LamX.ExtN H H1) (t : LamX.Tabs Z.T H1) : Leave Z none G H G H1 :=
  ⟨Same.refl _, ⟨fun b o h => e b o (gh.s b o h) (gh.nt b o h), gh.nt⟩, fun _ h => .inl h, fun b o h n => ⟨o, e b o h n, n, fun _ => rfl⟩, fun _ => t⟩
theorem Par.cl_of {G H : Hp} {thr : Option Addr} : Par.Cl ⟨G, H, fun b => ∃ o, H b = some o ∧ NT o, thr⟩ := fun b o h n => ⟨o, h, n⟩
section
variable {γ α : Type} {Z : Fx} {Ex : XK} {X : Cx} {Γ : List Slot} {Γm : γ → List Slot} {Γn : α → List Slot}
theorem mSaid_exn {word : Str} {known : Exn → Bool} {ms : Exn → M (Out γ α)} {mb : M D} {s : List D} {x : Exn} (e : mb [] = .exn x) (hk : known x = true) : mSaid word known ms mb s = M.nox (retD (ms x)) s := by
  unfold mSaid
  rw [e]
  exact if_pos hk
theorem mSaid_no {word : Str} {known : Exn → Bool} {ms : Exn → M (Out γ α)} {mb : M D} {s : List D} {x : Exn} (e : mb [] = .exn x) (hk : known x = false) : mSaid word known ms mb s = .stuck := by
  unfold mSaid
  rw [e]
  exact if_neg (by rw [hk]; decide)
theorem said_rd {word : Str} {known : Exn → Bool} {ms : Exn → M (Out γ α)} {mb : M D} {σ : L2.St} {H : Hp} {Q : VK} (h : rdE Z Ex Γ (mSaid word known ms mb) σ H Q) :
    LamX.tLam Z.T (TTs Z word Γm Γn known ms) (fun E => rdE Z E (noThr Γ) mb) σ H Q := by
  obtain ⟨P, s, G, o, q⟩ := h
  refine ⟨o.base.tabs, fun H1 eN T1 => ?_⟩
  have o1 : Ok Z P Γ s σ G H1 := o.leave (ext_leave o.base.gh eN T1)
  have o0 := o1.noThr (s' := [])
  cases e : mb [] with
  | stuck => unfold mSaid at q; rw [e] at q; exact q.elim
  | ok r =>
    obtain ⟨d, s'⟩ := r
    unfold mSaid at q
    rw [e] at q
    refine ⟨fun _ _ _ => False, fun _ _ _ z => z.elim, _, [], G, o0, ?_⟩
    rw [e]
    intro G' H' g o' v rv
    refine ⟨by decide, fun p hp => ?_⟩
    have lv : Leave Z none G H1 G' H' := o'.base.lv
    have o2 := o1.leave lv
    have g2 := same_upd (o := .tup [.str word, v]) (o2.base.gh.free hp)
    exact q _ _ (g.trans g2) (o2.leave (.new o2.base.gh hp)) _ (.tup upd_same (.cons (.str word) (.cons (rv.mono g2) .nil)))
  | exn xn =>
    cases hk : known xn with
    | false => rw [mSaid_no e hk] at q; exact q.elim
    | true =>
    rw [mSaid_exn e hk] at q
    refine ⟨fun cls dx H' => ∃ G', Leave Z none G H1 G' H' ∧ ExnRep Z (fun d => ∀ o, H1 d = some o → ¬ NT o) G' H' xn cls dx, fun cls dx H' ⟨G', lv, er⟩ => ?_, _, [], G, o0, ?_⟩
    · have main : ∃ G'', Same G' G'' ∧ Leave Z none G H1 G'' H' ∧ ErrOk Z.K G'' dx xn.args ∧ ∃ C, Z.mg xn.name = some (.ref C) ∧ cls = .ref C := by
        obtain ⟨C, h1, h2, h3⟩ := er
        obtain ⟨nm, as⟩ := xn
        cases as with
        | nil => exact ⟨G', Same.refl _, lv, .inl ⟨rfl, h3⟩, C, h1, h2⟩
        | cons a as =>
          obtain ⟨d, fs, e1, e2, e3, e4⟩ := h3
          cases c : G' d with
          | some u =>
            have := lv.gh.s _ _ c
            rw [e3] at this
            cases this
            exact ⟨G', Same.refl _, lv, .inr ⟨d, fs, e1, c, e4⟩, C, h1, h2⟩
          | none =>
            have g := same_upd (o := .xd fs) c
            refine ⟨upd G' d (.xd fs), g, ⟨lv.g.trans g, ⟨fun b o z => ?_, fun b o z => ?_⟩, fun b hb => ?_, lv.st, lv.tb⟩, .inr ⟨d, fs, e1, upd_same, e4.mono g⟩, C, h1, h2⟩
            · by_cases hb : b = d
              · rw [hb, upd_same] at z; rw [hb]; cases z; exact e3
              · rw [upd_ne hb] at z; exact lv.gh.s _ _ z
            · by_cases hb : b = d
              · rw [hb, upd_same] at z; cases z; exact nt_xd
              · rw [upd_ne hb] at z; exact lv.gh.nt _ _ z
            · by_cases hd : b = d
              · rw [hd]; exact .inr e2
              · rw [upd_ne hd] at hb; exact lv.fr b hb
      obtain ⟨G'', gg, l2, eo, C, h1, h2⟩ := main
      have o2 := o1.leave l2
      refine ⟨xn, ⟨G'', H', fun b => ∃ o, H' b = some o ∧ NT o, P.thr⟩, s, G'', hk, by rw [h2]; exact h1, eo, Par.cl_of, ⟨.refl l2.gh, fun b hb => hb, o2.base.tabs⟩, o2.thr, ?_⟩
      have q : Post Z Ex P Γ σ G (M.nox (retD (ms xn)) s) _ := q
      unfold M.nox retD M.bind at q
      cases em : ms xn s with
      | stuck => rw [em] at q; exact q.elim
      | exn y => rw [em] at q; exact q.elim
      | ok r =>
        obtain ⟨out, s'⟩ := r
        rw [em] at q
        cases out with
        | ret d =>
          intro v G1 H2 g1 b1 t1 rv
          exact q G1 H2 (l2.g.trans g1) (o2.leaveT b1.lv t1) v rv
        | nx a =>
          intro σ' G1 H2 g1 o3
          exact q G1 H2 (l2.g.trans g1) (o2.leaveT o3.base.lv o3.thr) .non .non
        | retL l => exact q.elim
        | brk a => exact q.elim
        | cnt a => exact q.elim
    · rw [e]
      exact fun cls dx G' H' g b er => ⟨G', b.lv, er⟩
theorem cok_lam {X : Cx} [ck : Cok Z X] {A : Around} {outer : List Env} {s : Shared} {H : Hp} {E : XK} {scope : Scope} {f c' : Addr} {k : Nat} (hr : Room k (A.deeper (LamX.lamEnv X scope s.heap.objs.size f c'))) : Cok Z (LamX.lamCx X A outer s H E scope f c') :=
  { K := ck.K, mg := ck.mg, nd := ck.nd, calm := rfl, hu := by
      have := hr.un
      show (A.deeper (LamX.lamEnv X scope s.heap.objs.size f c')).units + 66 < cLine
      omega }
theorem eok_lam {X : Cx} {A : Around} {outer : List Env} {s : Shared} {H : Hp} {E : XK} {scope : Scope} {f c' : Addr} : Eok E (LamX.lamCx X A outer s H E scope f c') :=
  ⟨passes_call (takes_of rfl rfl rfl rfl) fun _ _ _ _ h => h, takes_of rfl rfl rfl rfl, passes_of rfl⟩
/-- x(lambda: body) -/
theorem e_said {x a word : Str} {st : Stmt} {k : Nat} {Ng : List Str} {c Pt : Addr} {params : Arguments} {body : Expr} {scope : Scope} {p lpos pos : Pos} {mb : M D} {known : Exn → Bool} {ms : Exn → M (Out γ α)} [ck : Cok Z X]
    (F : DefAt Z.K Z.mg x st) (hb : ∀ g fd, FD Z.K x x st g fd → Binds Z.K fd [a] []) (Sg : FnScope Ng [a] (defScope st)) (hNg : Ng[0]? = some a) (hva : Vis (defScope st) a)
    (hG : ∀ g cdv, LamX.GivesTo X Ng x (defScope st) g cdv (defBody st) a (X.env.qual ++ "<lambda>") (TTs Z word Γm Γn known ms))
    (TB : LamX.TabB X.base X.mg c Pt) (hcode : X.env.code = .ref c) (hmT : (Pt, X.env.qual ++ "<lambda>") ∈ Z.T) (hu : ∀ p ∈ Z.T, p.1 = Pt → p.2 = X.env.qual ++ "<lambda>") (hr : Room (k + 2) X.A) (L : LamX.LamS X.env.scope scope)
    (hbody : ∀ (A : Around) (outer : List Env) (s : Shared) (H : Hp) (E : XK) (f c' : Addr), Room k (A.deeper (LamX.lamEnv X scope s.heap.objs.size f c')) → Cok Z (LamX.lamCx X A outer s H E scope f c') → Eok E (LamX.lamCx X A outer s H E scope f c') → PE (LamX.lamCx X A outer s H E scope f c') body (rdE Z E (noThr Γ) mb))
    (hg : Gl X x := by rfl) (hdef : defaultsOf params X.env = ([], []) := by rfl)
    (hbind : ∀ (q : Str) (cl : List (Str × Addr)) (pm cv ctv : Value), bindArgs (PySem.W.kla_fn "<lambda>" q params body scope cl pm cv ctv) ⟨[], []⟩ = pure [] := by intros; rfl)
    (hdb : (x == ("__debug__" : Str)) = false := by decide) (hd : (a == ("__debug__" : Str)) = false := by decide) (hcd : (a == ("__classdict__" : Str)) = false := by decide) :
    PE X (.Call (.Name x p) [.Lambda params body scope lpos] [] pos) (rdE Z Ex Γ (mSaid word known ms mb)) := by
  obtain ⟨g, fd, FF, hm⟩ := F
  have hbs := hb g fd FF
  have hkp := FF.kp
  obtain ⟨oc, od, dV, kV, doc, pm, an, cdv, ct, osl, rfl, lk, hcd', _, _⟩ := FF.ex
  exact pe_imp (LamX.pe_lamcall (T := Z.T) (TT := TTs Z word Γm Γn known ms) (t := fun E => rdE Z E (noThr Γ) mb) (Ng := Ng) (a := a) (g := g) (c := c) (P := Pt) (k := k) hg (by rw [ck.mg]; exact hm) (by rw [ck.K]; exact hkp) (by rw [ck.K]; exact lk) (by rw [ck.K]; exact hcd') (by rw [ck.K]; exact hbs) Sg hNg hva (hG g cdv) TB hcode hmT hu hr L hdef hbind
    (fun A outer s H E f c' h => hbody A outer s H E f c' h (cok_lam h) eok_lam) hdb hd hcd) fun σ H Q h => said_rd h
end
end Sim
end
section
set_option Elab.async false
set_option linter.all false
set_option maxRecDepth 100000
set_option maxHeartbeats 1000000
namespace Sim
open PySem PySem.Spec PyProof.Rows L2
/-- a def whose code object is at c -/
structure FDc (K : PySem.W.Frag) (x : Str) (st : Stmt) (f : Addr) (fd : FuncData) (c : Addr) : Prop where
  F : FD K x x st f fd
  ex : ∃ (oc : Value) (od : Option Addr) (dV kV doc pm : Value) (an : Option Addr) (ct : Value) (osl : Array (Option Value)),
    fd = PySem.W.fnOf x x (defArgs st) (defBody st) (defScope st) dV kV doc pm an (.ref c) ct ∧ K.lookup f = some ⟨oc, od, .func fd, osl⟩ ∧ PySem.W.codeIn K (.ref c) x = true
def lamQ (x : Str) : Str := (x ++ ".<locals>.") ++ "<lambda>"
/-- a def that makes a lambda -/
def LamAt (K : PySem.W.Frag) (mg : Str → Option Value) (base : Heap) (TT : List (Addr × Str)) (x : Str) (st : Stmt) : Prop :=
  ∃ f fd c Pt, FDc K x st f fd c ∧ mg x = some (.ref f) ∧ LamX.TabB base mg c Pt ∧ (Pt, lamQ x) ∈ TT ∧ ∀ p ∈ TT, p.1 = Pt → p.2 = lamQ x
section
variable {γ α : Type} {P : Program} {w : World} {K : PySem.W.Frag} {mg : Str → Option Value} {base : Heap} {T : List (Addr × Str)} {x : Str} {st : Stmt} {f c : Addr} {fd : FuncData} {N ps : List Str} {k n : Nat} {Γm : γ → List Slot} {Γn : α → List Slot}
theorem FDc.ok {CX : CXT} {sp : Sp} (F : FDc K x st f fd c) (S : FnScope N ps (defScope st)) (len : ∀ vs H Q E, sp vs H Q E → vs.length = ps.length)
    (hbody : ∀ (A : Around) (outer : List Env) (s : Shared) (H : Hp) (vs : List V) (Q : VK) (E : XK), Room k (A.deeper (envOfC x (defScope st) s.heap.objs.size f (.ref c))) → sp vs H Q E →
      ∃ t, PSs (cxOf CX P w K mg base N x (defScope st) f (.ref c) A outer s H E) (defBody st) t ∧ t { nx := fun _ H' => Q .non H', rt := Q } (L2.start N vs) H) : FnOk P w K mg base CX (k + 1) f fd ps sp := by
  obtain ⟨oc, od, dV, kV, doc, pm, an, ct, osl, rfl, lk, hcd⟩ := F.ex
  exact fn_of lk hcd S len fun A outer s H vs Q E hr hsp => hbody A outer s H vs Q E hr hsp
theorem fun_Pc {mb : List D → M (Out γ α)} (F : FDc K x st f fd c) (S : FnScope N ps (defScope st)) (hn : ps.length = n)
    (hb : ∀ (ds : List D) (A : Around) (outer : List Env) (s : Shared) (H : Hp) (E : XK), ds.length = n → Room k (A.deeper (envOfC x (defScope st) s.heap.objs.size f (.ref c))) → Cok ⟨K, mg, T⟩ (cxOf (L2.CX P w) P w K mg base N x (defScope st) f (.ref c) A outer s H E) →
      PSs (cxOf (L2.CX P w) P w K mg base N x (defScope st) f (.ref c) A outer s H E) (defBody st) (rdS ⟨K, mg, T⟩ E (ds.map Slot.pur ++ List.replicate (N.length - n) .any) Γm Γn (mb ds))) :
    FnOk P w K mg base (L2.CX P w) (k + 1) f fd ps (spP ⟨K, mg, T⟩ n fun ds => retD (mb ds)) :=
  F.ok S (fun vs H Q E h => h.1.trans hn.symm) fun A outer s H vs Q E hr h => by
    obtain ⟨ds, hl, q⟩ := body_P (N := N) (Γm := Γm) (Γn := Γn) h
    exact ⟨_, hb ds A outer s H E hl hr (cok_def S.nd hr), q⟩
theorem fun_Sc {mb : List D → M (Out γ α)} (F : FDc K x st f fd c) (S : FnScope N ps (defScope st)) (hn : ps.length = n + 1)
    (hb : ∀ (ds : List D) (A : Around) (outer : List Env) (s : Shared) (H : Hp) (E : XK), ds.length = n → Room k (A.deeper (envOfC x (defScope st) s.heap.objs.size f (.ref c))) → Cok ⟨K, mg, T⟩ (cxOf (L2.CX P w) P w K mg base N x (defScope st) f (.ref c) A outer s H E) → Eok XF (cxOf (L2.CX P w) P w K mg base N x (defScope st) f (.ref c) A outer s H E) →
      PSs (cxOf (L2.CX P w) P w K mg base N x (defScope st) f (.ref c) A outer s H E) (defBody st) (rdS ⟨K, mg, T⟩ XF (.thr :: ds.map Slot.pur ++ List.replicate (N.length - (n + 1)) .any) Γm Γn (mb ds))) :
    FnOk P w K mg base (L2.CX P w) (k + 1) f fd ps (spS ⟨K, mg, T⟩ n fun ds => retD (mb ds)) :=
  F.ok S (fun vs H Q E h => h.1.trans hn.symm) fun A outer s H vs Q E hr h => by
    obtain ⟨ds, hl, q⟩ := body_S (N := N) (Γm := Γm) (Γn := Γn) h
    exact ⟨_, hb ds A outer s H E hl hr (cok_def S.nd hr) (eok_XF (E := E)), q⟩
end
end Sim
end
section
set_option Elab.async false
set_option linter.all false
set_option maxRecDepth 100000
set_option maxHeartbeats 1000000
namespace Sim
open PySem PySem.Spec PyProof.Rows L2
/-! ### the script -/
section
variable {Z : Fx} {Ex : XK} {X : Cx} {Γ : List Slot} {pos : Pos}
theorem Ok.scr {P : Par} {s : List D} {σ : L2.St} {G H : Hp} (k : Ok Z P Γ s σ G H) {i : Nat} {xs : List V} (hi : Γ[i]? = some (.scr xs)) : ∃ a, σ[i]? = some (some (.ref a)) ∧ SqL Z.K G a xs := by
  obtain ⟨fps, h1, _⟩ := k.sl
  obtain ⟨v, fp, e, q, _⟩ := h1.get hi
  cases q with
  | scr r => exact ⟨_, e, r⟩
theorem rps_intsV {K : PySem.W.Frag} {H : Hp} : ∀ ns : List Int, Rps K H (ns.map V.int) (ns.map PyData.int)
  | [] => .nil
  | n :: ns => .cons (.int n) (rps_intsV ns)
/-- script[:e] -/
theorem l_scr (i : Nat) {ns : List Int} {y : Str} {py p2 : Pos} {hi : Option Expr} {mh : M (Option Int)} [ck : Cok0 Z X] (hv : PE X (.Name y py) (tVar i)) (hu : PO X hi (rdO Z Ex Γ mh)) (hG : Γ[i]? = some (.scr (ns.map V.int)) := by rfl) :
    PE X (.Subscript (.Name y py) (.Slice none hi none p2) pos) (rdL Z Ex Γ (M.bind mh fun h => M.pure (cutL (ns.map PyData.int) none h))) :=
  pe_imp (pe_slice (o_slL (Z := Z)) hv (o_none (Z := Z) (Ex := Ex) (Γ := Γ)) hu) fun σ H Q ⟨P, s, G, o, q⟩ => by
    obtain ⟨a, e0, e1⟩ := o.scr hG
    refine ⟨.ref a, e0, ?_⟩
    refine ⟨P, s, G, o, fun G1 H1 g1 o1 => stepO (α := List D) o1 (q.grow g1) fun h s2 G2 H2 g2 o2 q2 => ?_⟩
    obtain ⟨a', e0', e1'⟩ := o2.scr hG
    rw [e0] at e0'
    cases e0'
    exact ⟨a, ns.map V.int, rfl, SqL.same o2.base.gh.s e1', fun p hp => Post.pure q2 o2 p _ hp (rps_cut (rps_intsV ns) none h)⟩
end
/-- f(), f a def without parameters -/
theorem cP0 {Z : Fx} {Ex : XK} {X : Cx} {Γ : List Slot} {x : Str} {j k : Nat} {m : List D → M D} {p pos : Pos} [ck : Cok0 Z X] [ek : Eok Ex X] (F : CallF X.prog X.w X.K X.mg X.base x j (spP Z 0 m)) (hr : Room k X.A) (hk : j ≤ k)
    (hg : Gl X x := by rfl) (hdb : (x == ("__debug__" : Str)) = false := by decide) : PE X (.Call (.Name x p) [] [] pos) (rdE Z Ex Γ (callP 0 m (M.pure []))) := by
  obtain ⟨f, fd, ps, F, h1, h2, h3⟩ := F
  refine pe_imp (pe_call0 F (hr.mono hk) hg h1 h2 h3 (dvs := []) .nil ek.pass hdb) fun σ H Q ⟨P, s, G, o, q⟩ => ?_
  have q1 : Post Z Ex P Γ σ G (M.pur (m []) s) _ := q
  have q2 := Post.call o q1
  exact ⟨rfl, o.base.tabs, G, [], o.base.gh, .nil, R.post_mono q2 (fun r h v G' H' l rv => h G' H' l (o.leave l) v rv) fun x h => h⟩
theorem scr_G {K : PySem.W.Frag} {H : Hp} {a : Addr} {xs : List V} (h : SqL K H a xs) : ∃ G, Sv G H ∧ SqL K G a xs := by
  have one : ∀ o, H a = some o → NT o → Sv (fun b => if b = a then some o else none) H := fun o e n => ⟨(fun b u z => by
      by_cases hb : b = a
      · simp only [hb, if_true] at z; rw [hb]; cases z; exact e
      · simp only [hb, if_false] at z; cases z), (fun b u z => by
      by_cases hb : b = a
      · simp only [hb, if_true] at z; cases z; exact n
      · simp only [hb, if_false] at z; cases z)⟩
  rcases h with (h | ⟨o, h⟩) | h
  · exact ⟨_, one _ h nt_lst, .inl (.inl (if_pos rfl))⟩
  · exact ⟨_, one _ h (fun _ z => by cases z), .inl (.inr ⟨o, if_pos rfl⟩)⟩
  · exact ⟨fun _ => none, ⟨fun _ _ z => by (cases z), fun _ _ z => by (cases z)⟩, .inr h⟩
/-- _law_hand's promise -/
def spHand (Z : Fx) (m : List Int → M (List D)) : Sp := fun vs H Q _ => vs.length = 1 ∧ LamX.Tabs Z.T H ∧ ∃ (a : Addr) (ns : List Int), vs = [.ref a] ∧ SqL Z.K H a (ns.map V.int) ∧
  (m ns []).post (fun r => ∀ p ws G' H', Sv G' H' → LamX.Tabs Z.T H' → H' p = none → Rps Z.K G' ws r.1 → Q (.ref p) (upd H' p (.lst ws))) (fun _ => False)
section
variable {γ α : Type} {P : Program} {w : World} {K : PySem.W.Frag} {mg : Str → Option Value} {base : Heap} {T : List (Addr × Str)} {x qual : Str} {params : Arguments} {body : List Stmt} {scope : Scope} {f : Addr} {fd : FuncData} {N ps : List Str} {k n : Nat} {Γm : γ → List Slot} {Γn : α → List Slot}
theorem fun_H {mb : List Int → M (Out γ α)} (F : FunD K x qual params body scope [] [] f fd) (S : FnScope N ps scope) (hn : ps.length = 1)
    (hb : ∀ (ns : List Int) (cdv : Value) (A : Around) (outer : List Env) (s : Shared) (H : Hp) (E : XK), Room k (A.deeper (envOfC qual scope s.heap.objs.size f cdv)) → Cok ⟨K, mg, T⟩ (cxOf (L2.CX P w) P w K mg base N qual scope f cdv A outer s H E) → Eok XF (cxOf (L2.CX P w) P w K mg base N qual scope f cdv A outer s H E) →
      PSs (cxOf (L2.CX P w) P w K mg base N qual scope f cdv A outer s H E) body (rdS ⟨K, mg, T⟩ XF (.scr (ns.map V.int) :: List.replicate (N.length - 1) .any) Γm Γn (mb ns))) :
    FnOk P w K mg base (L2.CX P w) (k + 1) f fd ps (spHand ⟨K, mg, T⟩ fun ns => retLst (mb ns)) :=
  F.ok S (fun vs H Q E h => h.1.trans hn.symm) fun cdv A outer s H vs Q E hr ⟨hl, tb, a, ns, e, sq, q⟩ => by
    subst e
    obtain ⟨G, gv, sg⟩ := scr_G sq
    refine ⟨_, hb ns cdv A outer s H E hr (cok_def S.nd hr) (eok_XF (E := E)), ⟨G, H, fun b => ∃ o, H b = some o ∧ NT o, none⟩, [], G, fun b o h n => ⟨o, h, n⟩, ⟨⟨.refl gv, fun b h => h, tb⟩, (fun p hp => (nomatch hp)), [], ?_, by simp⟩, ?_⟩
    · unfold L2.start
      exact .cons (fp := []) (.scr sg) (slots_start _ _ _ .nil)
    · change (retLst (mb ns) []).post _ _ at q
      unfold retLst M.bind at q
      cases e : mb ns [] with
      | stuck => rw [e] at q; exact q.elim
      | exn x => rw [e] at q; exact q.elim
      | ok o =>
        rw [e] at q
        obtain ⟨o, s'⟩ := o
        cases o with
        | retL d => exact fun p vs G' H' g' b t hp r => q p vs G' H' b.gh b.tabs hp r
        | nx a => exact q.elim
        | ret l => exact q.elim
        | brk a => exact q.elim
        | cnt a => exact q.elim
/-- the law's promise -/
def spLaw (Z : Fx) (n : Nat) : Sp := fun vs H Q _ => vs.length = 1 ∧ LamX.Tabs Z.T H ∧ ∃ (a : Addr) (ns : List Int), vs = [.ref a] ∧ SqL Z.K H a (ns.map V.int) ∧ ns.length ≤ n ∧ ∀ H', Q (.bl true) H'
theorem fun_law {x y z : Str} {j : Nat} {p1 p2 p3 p4 p5 : Pos} {rest : List Stmt} {mh : List Int → M (List D)} {mb : M (Out γ α)} (F : FunD K x qual params (.Assign [.Name y p1] (.Call (.Name z p2) [.Name "script" p3] [] p4) p5 :: rest) scope [] [] f fd) (S : FnScope ("script" :: y :: N) ["script"] scope)
    (FH : CallF P w K mg base z j (spHand ⟨K, mg, T⟩ mh)) (hj : j ≤ k) (hm : ∀ ns : List Int, ns.length ≤ n → ∃ ws s1 s2, mh ns [] = .ok (ws, s1) ∧ retD mb ws = .ok (.bool true, s2))
    (hb : ∀ (cdv : Value) (A : Around) (outer : List Env) (s : Shared) (H : Hp) (E : XK), Room k (A.deeper (envOfC qual scope s.heap.objs.size f cdv)) → Cok ⟨K, mg, T⟩ (cxOf (L2.CX P w) P w K mg base ("script" :: y :: N) qual scope f cdv A outer s H E) → Eok XF (cxOf (L2.CX P w) P w K mg base ("script" :: y :: N) qual scope f cdv A outer s H E) →
      PSs (cxOf (L2.CX P w) P w K mg base ("script" :: y :: N) qual scope f cdv A outer s H E) rest (rdS ⟨K, mg, T⟩ XF (.any :: .thr :: List.replicate N.length .any) Γm Γn mb))
    (hy : scope.names.lookup y = some NameKind.local) (hz : scope.names.lookup z = some NameKind.globalImplicit) (hsc : scope.names.lookup ("script" : Str) = some NameKind.local) (hdz : (z == ("__debug__" : Str)) = false) (hsw : ∀ X : Cx, swapsWith (.Call (.Name z p2) [.Name "script" p3] [] p4) (some (.Name y p1)) p5.line X.env = pure false) :
    FnOk P w K mg base (L2.CX P w) (k + 1) f fd ["script"] (spLaw ⟨K, mg, T⟩ n) :=
  F.ok S (fun vs H Q E h => h.1.trans rfl) fun cdv A outer s H vs Q E hr ⟨hl, tb, a, ns, e, sq, hln, hq⟩ => by
    subst e
    obtain ⟨ws, s1, s2, m1, m2⟩ := hm ns hln
    obtain ⟨g, fdg, pg, FG, h1, h2, h3⟩ := FH
    have ck : Cok ⟨K, mg, T⟩ (cxOf (L2.CX P w) P w K mg base ("script" :: y :: N) qual scope f cdv A outer s H E) := cok_def S.nd hr
    have ek : Eok XF (cxOf (L2.CX P w) P w K mg base ("script" :: y :: N) qual scope f cdv A outer s H E) := eok_XF (E := E)
    refine ⟨_, pss_cons (ps_set (i := 1) S.nd rfl (.inl hy) (pe_call FG (hr.mono hj) hz h1 h2 h3 (dvs := []) .nil ek.pass (pa_cons (pe_var (i := 0) rfl (.inl hsc)) pa_nil) hdz rfl rfl) (hsw _) (.inr hy)) (hb cdv A outer s H E hr ck ek), ?_⟩
    refine ⟨.ref a, rfl, ?_⟩
    refine ⟨rfl, tb, a, ns, rfl, sq, ?_⟩
    rw [m1]
    intro p ws' G' H' gv tb' hp r
    have gv2 : Sv G' (upd H' p (.lst ws')) := gv.to (same_upd hp)
    refine ⟨⟨G', upd H' p (.lst ws'), fun b => ∃ o, (upd H' p (.lst ws')) b = some o ∧ NT o, some p⟩, ws, G', fun b o h n => ⟨o, h, n⟩, ⟨⟨.refl gv2, fun b h => h, LamX.Tabs.ext tb' (same_upd hp)⟩, fun q hq => ?_, [], ?_, by simp⟩, ?_⟩
    · cases hq
      exact ⟨gv.free hp, ws', upd_same, r⟩
    · unfold L2.start
      exact .cons (fp := []) .any (.cons (fp := []) (.thr rfl) (slots_start _ _ _ .nil))
    · unfold retD M.bind at m2
      cases e : mb ws with
      | stuck => rw [e] at m2; cases m2
      | exn y => rw [e] at m2; cases m2
      | ok o =>
        rw [e] at m2
        obtain ⟨o, s3⟩ := o
        cases o with
        | ret d =>
          cases m2
          intro v G1 H1 g1 b1 t1 rv
          cases rv
          exact hq H1
        | nx a => cases m2
        | retL l => cases m2
        | brk a => cases m2
        | cnt a => cases m2
end
end Sim
end
section
set_option Elab.async false
set_option linter.all false
set_option maxRecDepth 100000
set_option maxHeartbeats 1000000
namespace Sim
open PySem PySem.Spec PyProof.Rows L2
/-! ### facts told by Bools -/
def oexB (K : PySem.W.Frag) (C : Addr) : Bool := (match K.lookup C with
  | some ⟨.type "type", _, .cls cd, sl⟩ => (match cd.mro, sl.toList with
    | .ref C' :: bm, [_, _, _, _, some (.builtin n), _] => C' == C && n == "ValueError.__new__" && !cd.hasDel && cd.hasDict && PySem.HandSPX.refsVE bm
    | _, _ => false)
  | _ => false) && (decide (PySem.W.findIn K (.ref C) "__setattr__" = some (some (.builtin "object.__setattr__"))) && (decide (PySem.W.subIn K (.ref C) (.type "BaseException") = some true) && (decide (PySem.W.typeIn K (.ref C) = some (.type "type")) && PySem.W.keepIn K (.ref C))))
theorem oexB_ok {K : PySem.W.Frag} {C : Addr} (h : oexB K C = true) : OexC K C := by
  unfold oexB at h
  obtain ⟨h1, h⟩ := Bool.and_eq_true_iff.mp h
  obtain ⟨h2, h⟩ := Bool.and_eq_true_iff.mp h
  obtain ⟨h3, h⟩ := Bool.and_eq_true_iff.mp h
  obtain ⟨h4, h5⟩ := Bool.and_eq_true_iff.mp h
  refine ⟨?_, of_decide_eq_true h2, of_decide_eq_true h3, of_decide_eq_true h4, h5⟩
  split at h1
  · rename_i dd cd sl ho
    split at h1
    · rename_i C' bm k0 k1 k2 k3 n k5 hm hs
      simp only [Bool.and_eq_true, beq_iff_eq, Bool.not_eq_true'] at h1
      obtain ⟨⟨⟨⟨rfl, rfl⟩, hdel⟩, hdc⟩, hr⟩ := h1
      obtain ⟨nm, bs, mro, ns, qn, hd, sn, sub, ab, col, del⟩ := cd
      dsimp only at hm hdel hdc
      subst hm hdel hdc
      have hsl : sl = #[k0, k1, k2, k3, some (.builtin "ValueError.__new__"), k5] := by
        obtain ⟨l⟩ := sl
        simp only at hs
        rw [hs]
      subst hsl
      exact ⟨nm, qn, ns, bs, bm, sn, sub, ab, col, dd, k0, k1, k2, k3, k5, ho, hr⟩
    · cases h1
  · cases h1
def ecB (K : PySem.W.Frag) (C : Addr) : Bool := decide (PySem.W.findIn K (.ref C) "__getattribute__" = some (some (.builtin "BaseException.__getattribute__"))) && (decide (PySem.W.findIn K (.ref C) "__getattr__" = some none) && (decide (PySem.W.subIn K (.ref C) (.type "BaseException") = some true) && (PySem.W.hasDictIn K C &&
  (decide (PySem.W.findIn K (.ref C) "__class__" = some (some (.builtin "object.__class__"))) && (decide (PySem.W.specialIn K (.builtin "object.__class__") "__get__" = some (some (.builtin "getset_descriptor.__get__"))) && (decide (PySem.W.takesIn K (.builtin "object.__class__") = some true) && decide (PySem.W.mroIn K C (.type "object") = some true)))))))
theorem ecB_ok {K : PySem.W.Frag} {C : Addr} (h : ecB K C = true) : ExcC K C := by
  unfold ecB at h
  simp only [Bool.and_eq_true, decide_eq_true_eq] at h
  obtain ⟨h1, h2, h3, h4, h5, h6, h7, h8⟩ := h
  exact ⟨h1, h2, h3, h4, h5, h6, h7, h8⟩
/-- what c names -/
def cvOf (K : PySem.W.Frag) (own : List Str) (c : Str) : Value := if own.contains c then .ref (He.ga K c) else .type "ValueError"
/-- the class nm caught by CF: asked for the classes ask, the fields fs -/
def errB (K : PySem.W.Frag) (own : List Str) (CF nm : Str) (ask fs : List Str) (sub : Str → Str → Option Bool) : Bool :=
  ecB K (He.ga K nm) && (decide (PySem.W.exmOne K (.ref (He.ga K nm)) (.ref (He.ga K CF)) = some true) && ((ask.all fun c => decide (PySem.W.kitOne K (.ref (He.ga K nm)) (cvOf K own c) = sub nm c)) && fs.all fun f => decide (PySem.W.findIn K (.ref (He.ga K nm)) f = some none)))
theorem errB_ok {K : PySem.W.Frag} {mg : Str → Option Value} {own : List Str} {CF nm : Str} {ask fs : List Str} {sub : Str → Str → Option Bool} (h : errB K own CF nm ask fs sub = true) (hg : mg nm = some (.ref (He.ga K nm)))
    (ho : ∀ c ∈ ask, own.contains c = true → mg c = some (.ref (He.ga K c))) (hb : ∀ c ∈ ask, own.contains c = false → c = "ValueError" ∧ mg c = none) (hs : ∀ c b, sub nm c = some b → c ∈ ask) :
    ErrC K mg (He.ga K nm) nm sub (fun f => fs.contains f) ∧ PySem.W.exmOne K (.ref (He.ga K nm)) (.ref (He.ga K CF)) = some true := by
  unfold errB at h
  simp only [Bool.and_eq_true, decide_eq_true_eq, List.all_eq_true] at h
  obtain ⟨h1, h2, h3, h4⟩ := h
  refine ⟨⟨hg, ecB_ok h1, fun c b e => ?_, fun f hf => h4 f (by simpa using hf)⟩, h2⟩
  have hc := hs c b e
  refine ⟨cvOf K own c, ?_, (h3 c hc).trans e⟩
  unfold cvOf
  cases q : own.contains c with
  | true => exact .inl ⟨_, ho c hc q, rfl⟩
  | false =>
    obtain ⟨e1, e2⟩ := hb c hc q
    subst e1
    exact .inr ⟨"ValueError", e2, by decide +kernel, by decide, rfl⟩
/-- a def that makes a lambda, from the head's facts -/
theorem lamAt_of {K : PySem.W.Frag} {mg : Str → Option Value} {base : Heap} {TT : List (Addr × Str)} {x : Str} {st : Stmt} {f : Addr} {fd : FuncData} {k : He.Defn} (hk : He.fAd K k = f) (F : FD K x x st f fd) (hm : mg x = some (.ref f)) (B : LamX.TabB base mg (He.cT K k).1 (He.cT K k).2)
    (h1 : ((He.cT K k).2, lamQ x) ∈ TT) (h2 : ∀ p ∈ TT, p.1 = (He.cT K k).2 → p.2 = lamQ x) : LamAt K mg base TT x st := by
  have F' := F
  obtain ⟨oc, od, dV, kV, doc, pm, an, cdv, ct, osl, e, lk, hcd, _, _⟩ := F.ex
  obtain ⟨c, rfl⟩ := He.codeIn_ref hcd
  have ec : (He.cT K k).1 = c := by
    refine He.codeOf_eq (fd := fd) (by rw [hk]; exact lk) ?_
    rw [e]
  refine ⟨f, fd, (He.cT K k).1, (He.cT K k).2, ⟨F, oc, od, dV, kV, doc, pm, an, ct, osl, by rw [ec]; exact e, lk, by rw [ec]; exact hcd⟩, hm, B, h1, h2⟩
theorem tabs_of {TT : List (Addr × Str)} {H : Hp} (h : ∀ p ∈ TT, H p.1 = some (.tbl #[])) : LamX.Tabs TT H := fun p hp => .nil (h p hp)
end Sim
end
section
set_option Elab.async false
set_option linter.all false
set_option maxRecDepth 100000
set_option maxHeartbeats 4000000
namespace Law
open PySem PySem.Spec PyProof.Rows L2 Sim
def top (i : Nat) : Stmt := PySem.Challenge.pw_cardturns_k42_news_along_rows.main.body.getD i (.Pass ⟨0, 0, 0, 0⟩)
def known_ (x : Exn) : Bool := [("BadHall" : Str), ("BadPlayers" : Str), ("BadRows" : Str), ("BadKnowing" : Str)].contains x.name
def sub_ (n c : Str) : Option Bool := [((("BadHall" : Str), ("BadHall" : Str)), true), ((("BadHall" : Str), ("BadPlayers" : Str)), false), ((("BadHall" : Str), ("BadKnowing" : Str)), false), ((("BadHall" : Str), ("BadRows" : Str)), false), ((("BadHall" : Str), ("ValueError" : Str)), true), ((("BadPlayers" : Str), ("BadHall" : Str)), false), ((("BadPlayers" : Str), ("BadPlayers" : Str)), true), ((("BadPlayers" : Str), ("BadKnowing" : Str)), false), ((("BadPlayers" : Str), ("BadRows" : Str)), false), ((("BadPlayers" : Str), ("ValueError" : Str)), true), ((("BadRows" : Str), ("BadHall" : Str)), false), ((("BadRows" : Str), ("BadPlayers" : Str)), false), ((("BadRows" : Str), ("BadKnowing" : Str)), false), ((("BadRows" : Str), ("BadRows" : Str)), true), ((("BadRows" : Str), ("ValueError" : Str)), true), ((("BadKnowing" : Str), ("BadHall" : Str)), false), ((("BadKnowing" : Str), ("BadPlayers" : Str)), false), ((("BadKnowing" : Str), ("BadKnowing" : Str)), true), ((("BadKnowing" : Str), ("BadRows" : Str)), false), ((("BadKnowing" : Str), ("ValueError" : Str)), true)].lookup (n, c)
def fld_ (f : Str) : Bool := [("at" : Str)].contains f
structure Txt (P : Program) (w : World) (K : PySem.W.Frag) (mg : Str → Option Value) (base : Heap) (TT : List (Addr × Str)) : Prop where
  g_CardFault : mg "CardFault" = some (.ref (He.ga K "CardFault"))
  catch_CardFault : Catch K mg (He.ga K "CardFault") known_ sub_ fld_
  lam__law_rows_right : LamAt K mg base TT "_law_rows_right" (top 48)
  lam__law_refused_right : LamAt K mg base TT "_law_refused_right" (top 49)
  d_is_integer : DefAt K mg "is_integer" (top 1)
  d_is_within : DefAt K mg "is_within" (top 2)
  d_is_row_of : DefAt K mg "is_row_of" (top 3)
  d_is_bag : DefAt K mg "is_bag" (top 4)
  d_is_rising : DefAt K mg "is_rising" (top 5)
  d_less : DefAt K mg "less" (top 6)
  d_is_book : DefAt K mg "is_book" (top 16)
  d_is_hall : DefAt K mg "is_hall" (top 17)
  d_check_hall : DefAt K mg "check_hall" (top 18)
  d_check_players : DefAt K mg "check_players" (top 19)
  d_is_person : DefAt K mg "is_person" (top 20)
  d_exchanged : DefAt K mg "exchanged" (top 23)
  d_goes : DefAt K mg "goes" (top 24)
  d_behind : DefAt K mg "behind" (top 25)
  d_halls_of : DefAt K mg "halls_of" (top 26)
  d_knowing_behind : DefAt K mg "knowing_behind" (top 28)
  d_check_knowing : DefAt K mg "check_knowing" (top 29)
  d_told : DefAt K mg "told" (top 30)
  d__law_hand : DefAt K mg "_law_hand" (top 32)
  d__law_draw : DefAt K mg "_law_draw" (top 33)
  d__law_any : DefAt K mg "_law_any" (top 34)
  d__law_some : DefAt K mg "_law_some" (top 35)
  d__law_mixed : DefAt K mg "_law_mixed" (top 36)
  d__law_same : DefAt K mg "_law_same" (top 37)
  d__law_hall : DefAt K mg "_law_hall" (top 38)
  d__law_put : DefAt K mg "_law_put" (top 39)
  d__law_done : DefAt K mg "_law_done" (top 40)
  d__law_odd : DefAt K mg "_law_odd" (top 41)
  d__law_drawn_turns : DefAt K mg "_law_drawn_turns" (top 42)
  d__law_spread : DefAt K mg "_law_spread" (top 43)
  d__law_said : DefAt K mg "_law_said" (top 44)
  d__law_goes : DefAt K mg "_law_goes" (top 45)
  d__law_first_bad : DefAt K mg "_law_first_bad" (top 46)
  d__law_bent_rows : DefAt K mg "_law_bent_rows" (top 47)
  d__law_rows_right : DefAt K mg "_law_rows_right" (top 48)
  d__law_refused_right : DefAt K mg "_law_refused_right" (top 49)
  d__law_known_right : DefAt K mg "_law_known_right" (top 50)
  d_law : DefAt K mg "law" (top 51)
  n_abs : mg "abs" = none
  n_all : mg "all" = none
  n_any : mg "any" = none
  n_bool : mg "bool" = none
  n_enumerate : mg "enumerate" = none
  n_int : mg "int" = none
  n_isinstance : mg "isinstance" = none
  n_len : mg "len" = none
  n_list : mg "list" = none
  n_max : mg "max" = none
  n_min : mg "min" = none
  n_range : mg "range" = none
  n_reversed : mg "reversed" = none
  n_set : mg "set" = none
  n_sorted : mg "sorted" = none
  n_str : mg "str" = none
  n_sum : mg "sum" = none
  n_tuple : mg "tuple" = none
  n_zip : mg "zip" = none
  c_MOST_PERSONS : ∃ t, mg "MOST_PERSONS" = some (.int 12 t)
  c_MOST_CARDS : ∃ t, mg "MOST_CARDS" = some (.int 16 t)
  c_MOST_ROWS : ∃ t, mg "MOST_ROWS" = some (.int 1000000 t)
  x_CardFault : ExcF K mg "CardFault" (He.ga K "CardFault")
  x_BadHall : ExcF K mg "BadHall" (He.ga K "BadHall")
  x_BadKnowing : ExcF K mg "BadKnowing" (He.ga K "BadKnowing")
  x_BadPlayers : ExcF K mg "BadPlayers" (He.ga K "BadPlayers")
  oex_BadRows : OexF P w K mg base "BadRows" "at" (He.ga K "BadRows")
section
variable {P : Program} {w : World} {K : PySem.W.Frag} {mg : Str → Option Value} {base : Heap} {TT : List (Addr × Str)}
def B_is_integer (v_thing : D) : M (Out Unit Unit) :=
 (mRet (mOfB (mAnd (mIsI .int (M.pure v_thing)) (mNot (mIsI .bool (M.pure v_thing))))))
def W_is_integer (ds : List D) : M (Out Unit Unit) := match ds with
  | [v_thing] => B_is_integer v_thing
  | _ => M.stuck
def M_is_integer (ds : List D) : M D := retD (W_is_integer ds)
theorem SC_is_integer : FnScope ["thing"] ["thing"] (defScope (top 1)) := ⟨rfl, rfl, rfl, by decide +kernel, rfl, by decide +kernel, by decide +kernel⟩
theorem ok_is_integer (T : Txt P w K mg base TT) : CallF P w K mg base "is_integer" 1 (spP ⟨K, mg, TT⟩ 1 M_is_integer) := by
  obtain ⟨f, fd, F, hm⟩ := T.d_is_integer
  have SC := SC_is_integer
  refine ⟨f, fd, ["thing"], fun_P (γ := Unit) (α := Unit) (Γm := fun _ => [.any]) (Γn := fun _ => []) (mb := W_is_integer) (k := 0) F SC rfl fun ds cdv A outer s H E hl hr ck => ?_, hm, F.kp, F.bindsN fun _ _ _ _ _ _ us hl => match us, hl with | [_], _ => rfl⟩
  match ds, hl with
  | [v_thing], _ =>
  show PSs _ _ (rdS ⟨K, mg, TT⟩ E [.pur v_thing] _ _ (B_is_integer v_thing))
  exact
 (s_ret (e_ofB (b_and (b_isi .int (e_var 0) T.n_isinstance T.n_int) (b_one (b_not (b_isi .bool (e_var 0) T.n_isinstance T.n_bool))))))
def B_is_within (v_thing v_low v_high : D) : M (Out Unit Unit) :=
 (mRet (mOfB (mAnd (mTo (callP 1 M_is_integer (mCons (M.pure v_thing) (M.pure [])))) (mChain dLe dLe (M.pure v_low) (M.pure v_thing) (M.pure v_high)))))
def W_is_within (ds : List D) : M (Out Unit Unit) := match ds with
  | [v_thing, v_low, v_high] => B_is_within v_thing v_low v_high
  | _ => M.stuck
def M_is_within (ds : List D) : M D := retD (W_is_within ds)
theorem SC_is_within : FnScope ["thing", "low", "high"] ["thing", "low", "high"] (defScope (top 2)) := ⟨rfl, rfl, rfl, by decide +kernel, rfl, by decide +kernel, by decide +kernel⟩
theorem ok_is_within (T : Txt P w K mg base TT) : CallF P w K mg base "is_within" 2 (spP ⟨K, mg, TT⟩ 3 M_is_within) := by
  obtain ⟨f, fd, F, hm⟩ := T.d_is_within
  have SC := SC_is_within
  refine ⟨f, fd, ["thing", "low", "high"], fun_P (γ := Unit) (α := Unit) (Γm := fun _ => [.any, .any, .any]) (Γn := fun _ => []) (mb := W_is_within) (k := 1) F SC rfl fun ds cdv A outer s H E hl hr ck => ?_, hm, F.kp, F.bindsN fun _ _ _ _ _ _ us hl => match us, hl with | [_, _, _], _ => rfl⟩
  match ds, hl with
  | [v_thing, v_low, v_high], _ =>
  show PSs _ _ (rdS ⟨K, mg, TT⟩ E [.pur v_thing, .pur v_low, .pur v_high] _ _ (B_is_within v_thing v_low v_high))
  exact
 (s_ret (e_ofB (b_and (b_ofE (cP (ok_is_integer T) hr (by decide) (a_cons (e_var 0) a_nil))) (b_one (b_chain op_le p_cmp op_le p_cmp (e_var 1) (e_var 0) (e_var 2))))))
def B_is_row_of (v_thing v_many : D) : M (Out Unit Unit) :=
 (mRet (mOfB (mAnd (mIsI .tuple (M.pure v_thing)) (mAnd (mCmp dEq (mB dLen (mCons (M.pure v_thing) (M.pure []))) (M.pure v_many)) (mBB dAll (mCons (mOfL (mCompB (mSeq (M.pure v_thing)) some yes (fun xone => (callP 1 M_is_integer (mCons (M.pure xone) (M.pure [])))))) (M.pure [])))))))
def W_is_row_of (ds : List D) : M (Out Unit Unit) := match ds with
  | [v_thing, v_many] => B_is_row_of v_thing v_many
  | _ => M.stuck
def M_is_row_of (ds : List D) : M D := retD (W_is_row_of ds)
theorem SC_is_row_of : FnScope ["thing", "many", "one"] ["thing", "many"] (defScope (top 3)) := ⟨rfl, rfl, rfl, by decide +kernel, rfl, by decide +kernel, by decide +kernel⟩
theorem ok_is_row_of (T : Txt P w K mg base TT) : CallF P w K mg base "is_row_of" 2 (spP ⟨K, mg, TT⟩ 2 M_is_row_of) := by
  obtain ⟨f, fd, F, hm⟩ := T.d_is_row_of
  have SC := SC_is_row_of
  refine ⟨f, fd, ["thing", "many"], fun_P (γ := Unit) (α := Unit) (Γm := fun _ => [.any, .any, .any]) (Γn := fun _ => []) (mb := W_is_row_of) (k := 1) F SC rfl fun ds cdv A outer s H E hl hr ck => ?_, hm, F.kp, F.bindsN fun _ _ _ _ _ _ us hl => match us, hl with | [_, _], _ => rfl⟩
  match ds, hl with
  | [v_thing, v_many], _ =>
  show PSs _ _ (rdS ⟨K, mg, TT⟩ E [.pur v_thing, .pur v_many, .any] _ _ (B_is_row_of v_thing v_many))
  exact
 (s_ret (e_ofB (b_and (b_isi .tuple (e_var 0) T.n_isinstance T.n_tuple) (b_and (b_cmp (o_eq (Z := ⟨K, mg, TT⟩)) p_eq (e_callB (c_len (Z := ⟨K, mg, TT⟩)) p_len T.n_len hv_len (a_cons (e_var 0) a_nil)) (e_var 1)) (b_one (b_callB (c_all (Z := ⟨K, mg, TT⟩)) p_all T.n_all hv_all (a_cons (e_ofL (l_comp (own := [("one", 2)]) (i_seq (Z := ⟨K, mg, TT⟩) (e_var 0)) (blkOk_by (by with_unfolding_all rfl)) (fun _ _ _ _ _ => (pg_name (i := 2) SC.nd rfl (by first | exact Or.inl rfl | exact Or.inr rfl))) (tg1 2) (fun _ _ _ _ _ xone => ts_nil (m := yes)) (fun _ _ _ _ _ xone => (cP (ok_is_integer T) hr (by decide) (a_cons (e_var 2) a_nil))))) a_nil)))))))
def B_is_bag (v_thing v_many : D) : M (Out Unit Unit) :=
 (mIfx (mOr (mNot (mIsI .tuple (M.pure v_thing))) (mNot (mBB dAll (mCons (mOfL (mCompB (mSeq (M.pure v_thing)) some yes (fun xone => (callP 3 M_is_within (mCons (M.pure xone) (mCons (M.pure (.int 0)) (mCons (mBin dSub (M.pure v_many) (M.pure (.int 1))) (M.pure [])))))))) (M.pure []))))) (mRet (mOfB (M.pure false)))
 (mRet (mOfB (mBB dAll (mCons (mOfL (mCompB (mBL dZip (mCons (M.pure v_thing) (mCons (mSl (M.pure v_thing) (mEnd (M.pure (.int 1))) (M.pure none)) (M.pure [])))) bnd2 yes (fun xoneother => (mOfB (mCmp dLe (M.pure xoneother.1) (M.pure xoneother.2)))))) (M.pure []))))))
def W_is_bag (ds : List D) : M (Out Unit Unit) := match ds with
  | [v_thing, v_many] => B_is_bag v_thing v_many
  | _ => M.stuck
def M_is_bag (ds : List D) : M D := retD (W_is_bag ds)
theorem SC_is_bag : FnScope ["thing", "many", "one", "other"] ["thing", "many"] (defScope (top 4)) := ⟨rfl, rfl, rfl, by decide +kernel, rfl, by decide +kernel, by decide +kernel⟩
theorem ok_is_bag (T : Txt P w K mg base TT) : CallF P w K mg base "is_bag" 3 (spP ⟨K, mg, TT⟩ 2 M_is_bag) := by
  obtain ⟨f, fd, F, hm⟩ := T.d_is_bag
  have SC := SC_is_bag
  refine ⟨f, fd, ["thing", "many"], fun_P (γ := Unit) (α := Unit) (Γm := fun _ => [.any, .any, .any, .any]) (Γn := fun _ => []) (mb := W_is_bag) (k := 2) F SC rfl fun ds cdv A outer s H E hl hr ck => ?_, hm, F.kp, F.bindsN fun _ _ _ _ _ _ us hl => match us, hl with | [_, _], _ => rfl⟩
  match ds, hl with
  | [v_thing, v_many], _ =>
  show PSs _ _ (rdS ⟨K, mg, TT⟩ E [.pur v_thing, .pur v_many, .any, .any] _ _ (B_is_bag v_thing v_many))
  exact
 (s_ifx (Γk := fun _ => []) (PW.pt (w_or (t_not (t_val (b_isi .tuple (e_var 0) T.n_isinstance T.n_tuple))) (w_or1 (t_not (t_val (b_callB (c_all (Z := ⟨K, mg, TT⟩)) p_all T.n_all hv_all (a_cons (e_ofL (l_comp (own := [("one", 2)]) (i_seq (Z := ⟨K, mg, TT⟩) (e_var 0)) (blkOk_by (by with_unfolding_all rfl)) (fun _ _ _ _ _ => (pg_name (i := 2) SC.nd rfl (by first | exact Or.inl rfl | exact Or.inr rfl))) (tg1 2) (fun _ _ _ _ _ xone => ts_nil (m := yes)) (fun _ _ _ _ _ xone => (cP (ok_is_within T) hr (by decide) (a_cons (e_var 2) (a_cons e_int (a_cons (e_bin op_sub p_sub (e_var 1) e_int) a_nil))))))) a_nil))))))) (s_ret (e_ofB b_bool))
 (s_ret (e_ofB (b_callB (c_all (Z := ⟨K, mg, TT⟩)) p_all T.n_all hv_all (a_cons (e_ofL (l_comp (own := [("one", 2), ("other", 3)]) (i_zip (Z := ⟨K, mg, TT⟩) (RZ.pi_zipA rfl T.n_zip (a_cons (e_var 0) (a_cons (e_slice (e_var 0) (o_some e_int) o_none) a_nil)))) (blkOk_by (by with_unfolding_all rfl)) (fun _ _ _ _ _ => (pg_tup rfl (pgs_cons (pg_name (i := 2) SC.nd rfl (by first | exact Or.inl rfl | exact Or.inr rfl)) (pgs_cons (pg_name (i := 3) SC.nd rfl (by first | exact Or.inl rfl | exact Or.inr rfl)) pgs_nil)))) (tg2 2 3) (fun _ _ _ _ _ xoneother => ts_nil (m := yes)) (fun _ _ _ _ _ xoneother => (e_ofB (b_cmp op_le p_cmp (e_var 2) (e_var 3)))))) a_nil)))))
def B_is_rising (v_thing v_many : D) : M (Out Unit Unit) :=
 (mRet (mOfB (mAnd (mTo (callP 2 M_is_bag (mCons (M.pure v_thing) (mCons (M.pure v_many) (M.pure []))))) (mBB dAll (mCons (mOfL (mCompB (mBL dZip (mCons (M.pure v_thing) (mCons (mSl (M.pure v_thing) (mEnd (M.pure (.int 1))) (M.pure none)) (M.pure [])))) bnd2 yes (fun xoneother => (mOfB (mCmp dLt (M.pure xoneother.1) (M.pure xoneother.2)))))) (M.pure []))))))
def W_is_rising (ds : List D) : M (Out Unit Unit) := match ds with
  | [v_thing, v_many] => B_is_rising v_thing v_many
  | _ => M.stuck
def M_is_rising (ds : List D) : M D := retD (W_is_rising ds)
theorem SC_is_rising : FnScope ["thing", "many", "one", "other"] ["thing", "many"] (defScope (top 5)) := ⟨rfl, rfl, rfl, by decide +kernel, rfl, by decide +kernel, by decide +kernel⟩
theorem ok_is_rising (T : Txt P w K mg base TT) : CallF P w K mg base "is_rising" 4 (spP ⟨K, mg, TT⟩ 2 M_is_rising) := by
  obtain ⟨f, fd, F, hm⟩ := T.d_is_rising
  have SC := SC_is_rising
  refine ⟨f, fd, ["thing", "many"], fun_P (γ := Unit) (α := Unit) (Γm := fun _ => [.any, .any, .any, .any]) (Γn := fun _ => []) (mb := W_is_rising) (k := 3) F SC rfl fun ds cdv A outer s H E hl hr ck => ?_, hm, F.kp, F.bindsN fun _ _ _ _ _ _ us hl => match us, hl with | [_, _], _ => rfl⟩
  match ds, hl with
  | [v_thing, v_many], _ =>
  show PSs _ _ (rdS ⟨K, mg, TT⟩ E [.pur v_thing, .pur v_many, .any, .any] _ _ (B_is_rising v_thing v_many))
  exact
 (s_ret (e_ofB (b_and (b_ofE (cP (ok_is_bag T) hr (by decide) (a_cons (e_var 0) (a_cons (e_var 1) a_nil)))) (b_one (b_callB (c_all (Z := ⟨K, mg, TT⟩)) p_all T.n_all hv_all (a_cons (e_ofL (l_comp (own := [("one", 2), ("other", 3)]) (i_zip (Z := ⟨K, mg, TT⟩) (RZ.pi_zipA rfl T.n_zip (a_cons (e_var 0) (a_cons (e_slice (e_var 0) (o_some e_int) o_none) a_nil)))) (blkOk_by (by with_unfolding_all rfl)) (fun _ _ _ _ _ => (pg_tup rfl (pgs_cons (pg_name (i := 2) SC.nd rfl (by first | exact Or.inl rfl | exact Or.inr rfl)) (pgs_cons (pg_name (i := 3) SC.nd rfl (by first | exact Or.inl rfl | exact Or.inr rfl)) pgs_nil)))) (tg2 2 3) (fun _ _ _ _ _ xoneother => ts_nil (m := yes)) (fun _ _ _ _ _ xoneother => (e_ofB (b_cmp op_lt p_cmp (e_var 2) (e_var 3)))))) a_nil))))))
def B_less (v_bag v_some : D) : M (Out Unit Unit) :=
 (M.bind (mBL dListOf (mCons (M.pure v_bag) (M.pure []))) fun v_left => (mForB (α := List D) (mSeq (M.pure v_some)) some (fun xone aleft =>
 (mIfj (δ := List D) (M.bind (M.pure xone) fun d => M.opt (dInF d aleft)) (mRem aleft (M.pure xone) (fun v_left => (M.pure (.nx v_left)))) (M.pure (.nx aleft)) (fun jleft =>
 (M.pure (.nx jleft))))) v_left (fun aleft =>
 (M.pure (.retL aleft)))))
def W_less (ds : List D) : M (Out Unit Unit) := match ds with
  | [v_bag, v_some] => B_less v_bag v_some
  | _ => M.stuck
def M_less (ds : List D) : M (List D) := retLst (W_less ds)
theorem SC_less : FnScope ["bag", "some", "left", "one"] ["bag", "some"] (defScope (top 6)) := ⟨rfl, rfl, rfl, by decide +kernel, rfl, by decide +kernel, by decide +kernel⟩
theorem ok_less (T : Txt P w K mg base TT) : CallF P w K mg base "less" 1 (spL ⟨K, mg, TT⟩ 2 M_less) := by
  obtain ⟨f, fd, F, hm⟩ := T.d_less
  have SC := SC_less
  refine ⟨f, fd, ["bag", "some"], fun_L (γ := Unit) (α := Unit) (Γm := fun _ => [.any, .any, .any, .any]) (Γn := fun _ => []) (mb := W_less) (k := 0) F SC rfl fun ds cdv A outer s H E hl hr ck => ?_, hm, F.kp, F.bindsN fun _ _ _ _ _ _ us hl => match us, hl with | [_, _], _ => rfl⟩
  match ds, hl with
  | [v_bag, v_some], _ =>
  show PSs _ _ (rdS ⟨K, mg, TT⟩ E [.pur v_bag, .pur v_some, .any, .any] _ _ (B_less v_bag v_some))
  exact
 (s_setL 2 (l_callTy (c_list (Z := ⟨K, mg, TT⟩)) p_list T.n_list hv_list (a_cons (e_var 0) a_nil)) (fun v_left =>
 (s_for (Γl := fun aleft : List D => [.pur v_bag, .pur v_some, .own aleft, .any]) (i_seq (Z := ⟨K, mg, TT⟩) (e_var 1)) (pg_name (i := 3) SC.nd rfl (by first | exact Or.inl rfl | exact Or.inr rfl)) (tg1 3) (fun xone aleft =>
 (s_if (Γk := fun jleft : List D => [.pur v_bag, .pur v_some, .own jleft, .pur xone]) (t_inOwn 2 (e_var 3) (pv 2)) (s_remove 2 rfl (pe_bm PySem.F.plainAttrs_list PySem.F.slot_list_remove PySem.F.type_list_remove mt_remove (pv 2) (pa_cons (e_var 3) pa_nil)) (fun v_left =>
 (s_nil (.same (.same (.same (.same .nil))))))) (s_nil (.same (.same (.same (.same .nil))))) (fun jleft =>
 (s_nil (.same (.same (.same (.any .nil)))))))) (fun aleft =>
 (s_retOwn 2 rfl (pv 2))) (.same (.same (.same (.same .nil)))))))
def B_is_book (v_thing v_many : D) : M (Out Unit Unit) :=
 (mRet (mOfB (mAnd (mTo (callP 2 M_is_bag (mCons (M.pure v_thing) (mCons (M.pure v_many) (M.pure []))))) (mCmp dLe (mB dLen (mCons (M.pure v_thing) (M.pure []))) (M.pure (.int 16))))))
def W_is_book (ds : List D) : M (Out Unit Unit) := match ds with
  | [v_thing, v_many] => B_is_book v_thing v_many
  | _ => M.stuck
def M_is_book (ds : List D) : M D := retD (W_is_book ds)
theorem SC_is_book : FnScope ["thing", "many"] ["thing", "many"] (defScope (top 16)) := ⟨rfl, rfl, rfl, by decide +kernel, rfl, by decide +kernel, by decide +kernel⟩
theorem ok_is_book (T : Txt P w K mg base TT) : CallF P w K mg base "is_book" 4 (spP ⟨K, mg, TT⟩ 2 M_is_book) := by
  obtain ⟨f, fd, F, hm⟩ := T.d_is_book
  have SC := SC_is_book
  refine ⟨f, fd, ["thing", "many"], fun_P (γ := Unit) (α := Unit) (Γm := fun _ => [.any, .any]) (Γn := fun _ => []) (mb := W_is_book) (k := 3) F SC rfl fun ds cdv A outer s H E hl hr ck => ?_, hm, F.kp, F.bindsN fun _ _ _ _ _ _ us hl => match us, hl with | [_, _], _ => rfl⟩
  match ds, hl with
  | [v_thing, v_many], _ =>
  show PSs _ _ (rdS ⟨K, mg, TT⟩ E [.pur v_thing, .pur v_many] _ _ (B_is_book v_thing v_many))
  exact
 (s_ret (e_ofB (b_and (b_ofE (cP (ok_is_bag T) hr (by decide) (a_cons (e_var 0) (a_cons (e_var 1) a_nil)))) (b_one (b_cmp op_le p_cmp (e_callB (c_len (Z := ⟨K, mg, TT⟩)) p_len T.n_len hv_len (a_cons (e_var 0) a_nil)) (e_gint T.c_MOST_CARDS))))))
def B_is_hall (v_thing : D) : M (Out Unit Unit) :=
 (mIfx (mOr (mNot (mIsI .tuple (M.pure v_thing))) (mNot (mChain dLe dLe (M.pure (.int 1)) (mB dLen (mCons (M.pure v_thing) (M.pure []))) (M.pure (.int 12))))) (mRet (mOfB (M.pure false)))
 (mRet (mOfB (mBB dAll (mCons (mOfL (mCompB (mSeq (M.pure v_thing)) some yes (fun xone => (callP 2 M_is_book (mCons (M.pure xone) (mCons (mB dLen (mCons (M.pure v_thing) (M.pure []))) (M.pure []))))))) (M.pure []))))))
def W_is_hall (ds : List D) : M (Out Unit Unit) := match ds with
  | [v_thing] => B_is_hall v_thing
  | _ => M.stuck
def M_is_hall (ds : List D) : M D := retD (W_is_hall ds)
theorem SC_is_hall : FnScope ["thing", "one"] ["thing"] (defScope (top 17)) := ⟨rfl, rfl, rfl, by decide +kernel, rfl, by decide +kernel, by decide +kernel⟩
theorem ok_is_hall (T : Txt P w K mg base TT) : CallF P w K mg base "is_hall" 5 (spP ⟨K, mg, TT⟩ 1 M_is_hall) := by
  obtain ⟨f, fd, F, hm⟩ := T.d_is_hall
  have SC := SC_is_hall
  refine ⟨f, fd, ["thing"], fun_P (γ := Unit) (α := Unit) (Γm := fun _ => [.any, .any]) (Γn := fun _ => []) (mb := W_is_hall) (k := 4) F SC rfl fun ds cdv A outer s H E hl hr ck => ?_, hm, F.kp, F.bindsN fun _ _ _ _ _ _ us hl => match us, hl with | [_], _ => rfl⟩
  match ds, hl with
  | [v_thing], _ =>
  show PSs _ _ (rdS ⟨K, mg, TT⟩ E [.pur v_thing, .any] _ _ (B_is_hall v_thing))
  exact
 (s_ifx (Γk := fun _ => []) (PW.pt (w_or (t_not (t_val (b_isi .tuple (e_var 0) T.n_isinstance T.n_tuple))) (w_or1 (t_not (t_chain op_le p_cmp op_le p_cmp e_int (e_callB (c_len (Z := ⟨K, mg, TT⟩)) p_len T.n_len hv_len (a_cons (e_var 0) a_nil)) (e_gint T.c_MOST_PERSONS)))))) (s_ret (e_ofB b_bool))
 (s_ret (e_ofB (b_callB (c_all (Z := ⟨K, mg, TT⟩)) p_all T.n_all hv_all (a_cons (e_ofL (l_comp (own := [("one", 1)]) (i_seq (Z := ⟨K, mg, TT⟩) (e_var 0)) (blkOk_by (by with_unfolding_all rfl)) (fun _ _ _ _ _ => (pg_name (i := 1) SC.nd rfl (by first | exact Or.inl rfl | exact Or.inr rfl))) (tg1 1) (fun _ _ _ _ _ xone => ts_nil (m := yes)) (fun _ _ _ _ _ xone => (cP (ok_is_book T) hr (by decide) (a_cons (e_var 1) (a_cons (e_callB (c_len (Z := ⟨K, mg, TT⟩)) p_len T.n_len hv_len (a_cons (e_var 0) a_nil)) a_nil)))))) a_nil)))))
def B_check_hall (v_hall : D) : M (Out Unit Unit) :=
 (mIfx (mNot (mTo (callP 1 M_is_hall (mCons (M.pure v_hall) (M.pure []))))) (M.raise ⟨"BadHall", []⟩)
 (M.pure (.nx ())))
def W_check_hall (ds : List D) : M (Out Unit Unit) := match ds with
  | [v_hall] => B_check_hall v_hall
  | _ => M.stuck
def M_check_hall (ds : List D) : M D := retD (W_check_hall ds)
theorem SC_check_hall : FnScope ["hall"] ["hall"] (defScope (top 18)) := ⟨rfl, rfl, rfl, by decide +kernel, rfl, by decide +kernel, by decide +kernel⟩
theorem ok_check_hall (T : Txt P w K mg base TT) : CallF P w K mg base "check_hall" 6 (spP ⟨K, mg, TT⟩ 1 M_check_hall) := by
  obtain ⟨f, fd, F, hm⟩ := T.d_check_hall
  have SC := SC_check_hall
  refine ⟨f, fd, ["hall"], fun_P (γ := Unit) (α := Unit) (Γm := fun _ => [.any]) (Γn := fun _ => []) (mb := W_check_hall) (k := 5) F SC rfl fun ds cdv A outer s H E hl hr ck => ?_, hm, F.kp, F.bindsN fun _ _ _ _ _ _ us hl => match us, hl with | [_], _ => rfl⟩
  match ds, hl with
  | [v_hall], _ =>
  show PSs _ _ (rdS ⟨K, mg, TT⟩ E [.pur v_hall] _ _ (B_check_hall v_hall))
  exact
 (s_ifx (Γk := fun _ => []) (t_not (t_val (b_ofE (cP (ok_is_hall T) hr (by decide) (a_cons (e_var 0) a_nil))))) (s_raise0 T.x_BadHall)
 (s_nil (a := ()) (.any .nil)))
def B_check_players (v_hall v_players : D) : M (Out Unit Unit) :=
 (mDo (callP 1 M_check_hall (mCons (M.pure v_hall) (M.pure []))) (mIfx (mNot (mTo (callP 2 M_is_rising (mCons (M.pure v_players) (mCons (mB dLen (mCons (M.pure v_hall) (M.pure []))) (M.pure [])))))) (M.raise ⟨"BadPlayers", []⟩)
 (M.pure (.nx ()))))
def W_check_players (ds : List D) : M (Out Unit Unit) := match ds with
  | [v_hall, v_players] => B_check_players v_hall v_players
  | _ => M.stuck
def M_check_players (ds : List D) : M D := retD (W_check_players ds)
theorem SC_check_players : FnScope ["hall", "players"] ["hall", "players"] (defScope (top 19)) := ⟨rfl, rfl, rfl, by decide +kernel, rfl, by decide +kernel, by decide +kernel⟩
theorem ok_check_players (T : Txt P w K mg base TT) : CallF P w K mg base "check_players" 7 (spP ⟨K, mg, TT⟩ 2 M_check_players) := by
  obtain ⟨f, fd, F, hm⟩ := T.d_check_players
  have SC := SC_check_players
  refine ⟨f, fd, ["hall", "players"], fun_P (γ := Unit) (α := Unit) (Γm := fun _ => [.any, .any]) (Γn := fun _ => []) (mb := W_check_players) (k := 6) F SC rfl fun ds cdv A outer s H E hl hr ck => ?_, hm, F.kp, F.bindsN fun _ _ _ _ _ _ us hl => match us, hl with | [_, _], _ => rfl⟩
  match ds, hl with
  | [v_hall, v_players], _ =>
  show PSs _ _ (rdS ⟨K, mg, TT⟩ E [.pur v_hall, .pur v_players] _ _ (B_check_players v_hall v_players))
  exact
 (s_expr (cP (ok_check_hall T) hr (by decide) (a_cons (e_var 0) a_nil))
 (s_ifx (Γk := fun _ => []) (t_not (t_val (b_ofE (cP (ok_is_rising T) hr (by decide) (a_cons (e_var 1) (a_cons (e_callB (c_len (Z := ⟨K, mg, TT⟩)) p_len T.n_len hv_len (a_cons (e_var 0) a_nil)) a_nil)))))) (s_raise0 T.x_BadPlayers)
 (s_nil (a := ()) (.any (.any .nil)))))
def B_is_person (v_hall v_thing : D) : M (Out Unit Unit) :=
 (mRet (callP 3 M_is_within (mCons (M.pure v_thing) (mCons (M.pure (.int 0)) (mCons (mBin dSub (mB dLen (mCons (M.pure v_hall) (M.pure []))) (M.pure (.int 1))) (M.pure []))))))
def W_is_person (ds : List D) : M (Out Unit Unit) := match ds with
  | [v_hall, v_thing] => B_is_person v_hall v_thing
  | _ => M.stuck
def M_is_person (ds : List D) : M D := retD (W_is_person ds)
theorem SC_is_person : FnScope ["hall", "thing"] ["hall", "thing"] (defScope (top 20)) := ⟨rfl, rfl, rfl, by decide +kernel, rfl, by decide +kernel, by decide +kernel⟩
theorem ok_is_person (T : Txt P w K mg base TT) : CallF P w K mg base "is_person" 3 (spP ⟨K, mg, TT⟩ 2 M_is_person) := by
  obtain ⟨f, fd, F, hm⟩ := T.d_is_person
  have SC := SC_is_person
  refine ⟨f, fd, ["hall", "thing"], fun_P (γ := Unit) (α := Unit) (Γm := fun _ => [.any, .any]) (Γn := fun _ => []) (mb := W_is_person) (k := 2) F SC rfl fun ds cdv A outer s H E hl hr ck => ?_, hm, F.kp, F.bindsN fun _ _ _ _ _ _ us hl => match us, hl with | [_, _], _ => rfl⟩
  match ds, hl with
  | [v_hall, v_thing], _ =>
  show PSs _ _ (rdS ⟨K, mg, TT⟩ E [.pur v_hall, .pur v_thing] _ _ (B_is_person v_hall v_thing))
  exact
 (s_ret (cP (ok_is_within T) hr (by decide) (a_cons (e_var 1) (a_cons e_int (a_cons (e_bin op_sub p_sub (e_callB (c_len (Z := ⟨K, mg, TT⟩)) p_len T.n_len hv_len (a_cons (e_var 0) a_nil)) e_int) a_nil)))))
def B_exchanged (v_cards v_out v_gain : D) : M (Out Unit Unit) :=
 (mRet (mB dTuple (mCons (mOfL (mBL dSorted (mCons (mOfL (mBinL dAddL (mOfL (callL 2 M_less (mCons (M.pure v_cards) (mCons (mOfL (mBL dLst (mCons (M.pure v_out) (M.pure [])))) (M.pure []))))) (mOfL (mBL dLst (mCons (M.pure v_gain) (M.pure [])))))) (M.pure [])))) (M.pure []))))
def W_exchanged (ds : List D) : M (Out Unit Unit) := match ds with
  | [v_cards, v_out, v_gain] => B_exchanged v_cards v_out v_gain
  | _ => M.stuck
def M_exchanged (ds : List D) : M D := retD (W_exchanged ds)
theorem SC_exchanged : FnScope ["cards", "out", "gain"] ["cards", "out", "gain"] (defScope (top 23)) := ⟨rfl, rfl, rfl, by decide +kernel, rfl, by decide +kernel, by decide +kernel⟩
theorem ok_exchanged (T : Txt P w K mg base TT) : CallF P w K mg base "exchanged" 2 (spP ⟨K, mg, TT⟩ 3 M_exchanged) := by
  obtain ⟨f, fd, F, hm⟩ := T.d_exchanged
  have SC := SC_exchanged
  refine ⟨f, fd, ["cards", "out", "gain"], fun_P (γ := Unit) (α := Unit) (Γm := fun _ => [.any, .any, .any]) (Γn := fun _ => []) (mb := W_exchanged) (k := 1) F SC rfl fun ds cdv A outer s H E hl hr ck => ?_, hm, F.kp, F.bindsN fun _ _ _ _ _ _ us hl => match us, hl with | [_, _, _], _ => rfl⟩
  match ds, hl with
  | [v_cards, v_out, v_gain], _ =>
  show PSs _ _ (rdS ⟨K, mg, TT⟩ E [.pur v_cards, .pur v_out, .pur v_gain] _ _ (B_exchanged v_cards v_out v_gain))
  exact
 (s_ret (e_callTy (c_tuple (Z := ⟨K, mg, TT⟩)) p_tuple T.n_tuple hv_tuple (a_cons (e_ofL (l_callB (c_sorted (Z := ⟨K, mg, TT⟩)) p_sorted T.n_sorted hv_sorted (a_cons (e_ofL (l_bin op_cat p_addL (e_ofL (cL (ok_less T) hr (by decide) (a_cons (e_var 0) (a_cons (e_ofL (l_lst (a_cons (e_var 1) a_nil))) a_nil)))) (e_ofL (l_lst (a_cons (e_var 2) a_nil))))) a_nil))) a_nil)))
def B_goes (v_hall v_players v_thing : D) : M (Out Unit Unit) :=
 (mIfx (mOr (mNot (mTo (callP 2 M_is_row_of (mCons (M.pure v_thing) (mCons (M.pure (.int 3)) (M.pure [])))))) (mNot (mBB dAll (mCons (mOfL (mCompB (mSeq (M.pure v_thing)) some yes (fun xone => (callP 2 M_is_person (mCons (M.pure v_hall) (mCons (M.pure xone) (M.pure []))))))) (M.pure []))))) (mRet (mOfB (M.pure false)))
 (mUnp (M.pure v_thing) bnd3 (fun xuvg => (mRet (mOfB (mAnd (mCmp dNe (M.pure xuvg.1) (M.pure xuvg.2.1)) (mAnd (mCmp dIn (M.pure xuvg.1) (M.pure v_players)) (mAnd (mCmp dIn (M.pure xuvg.2.1) (M.pure v_players)) (mAnd (mCmp dIn (M.pure xuvg.2.1) (mBin dItem (M.pure v_hall) (M.pure xuvg.1))) (mCmp dIn (M.pure xuvg.2.2) (mBin dItem (M.pure v_hall) (M.pure xuvg.2.1))))))))))))
def W_goes (ds : List D) : M (Out Unit Unit) := match ds with
  | [v_hall, v_players, v_thing] => B_goes v_hall v_players v_thing
  | _ => M.stuck
def M_goes (ds : List D) : M D := retD (W_goes ds)
theorem SC_goes : FnScope ["hall", "players", "thing", "one", "u", "v", "g"] ["hall", "players", "thing"] (defScope (top 24)) := ⟨rfl, rfl, rfl, by decide +kernel, rfl, by decide +kernel, by decide +kernel⟩
theorem ok_goes (T : Txt P w K mg base TT) : CallF P w K mg base "goes" 4 (spP ⟨K, mg, TT⟩ 3 M_goes) := by
  obtain ⟨f, fd, F, hm⟩ := T.d_goes
  have SC := SC_goes
  refine ⟨f, fd, ["hall", "players", "thing"], fun_P (γ := Unit) (α := Unit) (Γm := fun _ => [.any, .any, .any, .any, .any, .any, .any]) (Γn := fun _ => []) (mb := W_goes) (k := 3) F SC rfl fun ds cdv A outer s H E hl hr ck => ?_, hm, F.kp, F.bindsN fun _ _ _ _ _ _ us hl => match us, hl with | [_, _, _], _ => rfl⟩
  match ds, hl with
  | [v_hall, v_players, v_thing], _ =>
  show PSs _ _ (rdS ⟨K, mg, TT⟩ E [.pur v_hall, .pur v_players, .pur v_thing, .any, .any, .any, .any] _ _ (B_goes v_hall v_players v_thing))
  exact
 (s_ifx (Γk := fun _ => []) (PW.pt (w_or (t_not (t_val (b_ofE (cP (ok_is_row_of T) hr (by decide) (a_cons (e_var 2) (a_cons e_int a_nil)))))) (w_or1 (t_not (t_val (b_callB (c_all (Z := ⟨K, mg, TT⟩)) p_all T.n_all hv_all (a_cons (e_ofL (l_comp (own := [("one", 3)]) (i_seq (Z := ⟨K, mg, TT⟩) (e_var 2)) (blkOk_by (by with_unfolding_all rfl)) (fun _ _ _ _ _ => (pg_name (i := 3) SC.nd rfl (by first | exact Or.inl rfl | exact Or.inr rfl))) (tg1 3) (fun _ _ _ _ _ xone => ts_nil (m := yes)) (fun _ _ _ _ _ xone => (cP (ok_is_person T) hr (by decide) (a_cons (e_var 0) (a_cons (e_var 3) a_nil)))))) a_nil))))))) (s_ret (e_ofB b_bool))
 (s_unpack (e_var 2) (pg_tup rfl (pgs_cons (pg_name (i := 4) SC.nd rfl (by first | exact Or.inl rfl | exact Or.inr rfl)) (pgs_cons (pg_name (i := 5) SC.nd rfl (by first | exact Or.inl rfl | exact Or.inr rfl)) (pgs_cons (pg_name (i := 6) SC.nd rfl (by first | exact Or.inl rfl | exact Or.inr rfl)) pgs_nil)))) (tg3 4 5 6) (fun xuvg =>
 (s_ret (e_ofB (b_and (b_cmp (o_ne (Z := ⟨K, mg, TT⟩)) p_ne (e_var 4) (e_var 5)) (b_and (b_cmp (o_in (Z := ⟨K, mg, TT⟩)) p_in (e_var 4) (e_var 1)) (b_and (b_cmp (o_in (Z := ⟨K, mg, TT⟩)) p_in (e_var 5) (e_var 1)) (b_and (b_cmp (o_in (Z := ⟨K, mg, TT⟩)) p_in (e_var 5) (e_ix (o_ix (Z := ⟨K, mg, TT⟩)) p_ix (e_var 0) (e_var 4))) (b_one (b_cmp (o_in (Z := ⟨K, mg, TT⟩)) p_in (e_var 6) (e_ix (o_ix (Z := ⟨K, mg, TT⟩)) p_ix (e_var 0) (e_var 5)))))))))))))
def B_behind (v_hall v_turn : D) : M (Out Unit Unit) :=
 (mUnp (M.pure v_turn) bnd3 (fun xuvg => (M.bind (mBL dListOf (mCons (M.pure v_hall) (M.pure []))) fun v_found => (mStore v_found (callP 3 M_exchanged (mCons (mBin dItem (M.pure v_hall) (M.pure xuvg.1)) (mCons (M.pure xuvg.2.1) (mCons (M.pure xuvg.2.2) (M.pure []))))) (M.pure xuvg.1) (fun v_found => (mStore v_found (callP 3 M_exchanged (mCons (mBin dItem (M.pure v_hall) (M.pure xuvg.2.1)) (mCons (M.pure xuvg.2.2) (mCons (M.pure xuvg.1) (M.pure []))))) (M.pure xuvg.2.1) (fun v_found => (mRet (mB dTuple (mCons (M.pure (.list v_found)) (M.pure [])))))))))))
def W_behind (ds : List D) : M (Out Unit Unit) := match ds with
  | [v_hall, v_turn] => B_behind v_hall v_turn
  | _ => M.stuck
def M_behind (ds : List D) : M D := retD (W_behind ds)
theorem SC_behind : FnScope ["hall", "turn", "u", "v", "g", "found"] ["hall", "turn"] (defScope (top 25)) := ⟨rfl, rfl, rfl, by decide +kernel, rfl, by decide +kernel, by decide +kernel⟩
theorem ok_behind (T : Txt P w K mg base TT) : CallF P w K mg base "behind" 3 (spP ⟨K, mg, TT⟩ 2 M_behind) := by
  obtain ⟨f, fd, F, hm⟩ := T.d_behind
  have SC := SC_behind
  refine ⟨f, fd, ["hall", "turn"], fun_P (γ := Unit) (α := Unit) (Γm := fun _ => [.any, .any, .any, .any, .any, .any]) (Γn := fun _ => []) (mb := W_behind) (k := 2) F SC rfl fun ds cdv A outer s H E hl hr ck => ?_, hm, F.kp, F.bindsN fun _ _ _ _ _ _ us hl => match us, hl with | [_, _], _ => rfl⟩
  match ds, hl with
  | [v_hall, v_turn], _ =>
  show PSs _ _ (rdS ⟨K, mg, TT⟩ E [.pur v_hall, .pur v_turn, .any, .any, .any, .any] _ _ (B_behind v_hall v_turn))
  exact
 (s_unpack (e_var 1) (pg_tup rfl (pgs_cons (pg_name (i := 2) SC.nd rfl (by first | exact Or.inl rfl | exact Or.inr rfl)) (pgs_cons (pg_name (i := 3) SC.nd rfl (by first | exact Or.inl rfl | exact Or.inr rfl)) (pgs_cons (pg_name (i := 4) SC.nd rfl (by first | exact Or.inl rfl | exact Or.inr rfl)) pgs_nil)))) (tg3 2 3 4) (fun xuvg =>
 (s_setL 5 (l_callTy (c_list (Z := ⟨K, mg, TT⟩)) p_list T.n_list hv_list (a_cons (e_var 0) a_nil)) (fun v_found =>
 (s_store 5 rfl (cP (ok_exchanged T) hr (by decide) (a_cons (e_ix (o_ix (Z := ⟨K, mg, TT⟩)) p_ix (e_var 0) (e_var 2)) (a_cons (e_var 3) (a_cons (e_var 4) a_nil)))) (pg_sub (pv 5) (e_var 2) set_list) (fun v_found =>
 (s_store 5 rfl (cP (ok_exchanged T) hr (by decide) (a_cons (e_ix (o_ix (Z := ⟨K, mg, TT⟩)) p_ix (e_var 0) (e_var 3)) (a_cons (e_var 4) (a_cons (e_var 2) a_nil)))) (pg_sub (pv 5) (e_var 3) set_list) (fun v_found =>
 (s_freeze 5 rfl (s_ret (e_callTy (c_tuple (Z := ⟨K, mg, TT⟩)) p_tuple T.n_tuple hv_tuple (a_cons (e_var 5) a_nil))))))))))))
def B_halls_of (v_hall v_players v_rows : D) : M (Out Unit Unit) :=
 (mIfx (mNot (mIsI .list (M.pure v_rows))) (mRaise1 "BadRows" "at" (M.bind (M.pure (.int 1)) fun x => M.opt (dNeg x)))
 (M.bind (mBL dLst (mCons (M.pure v_hall) (M.pure []))) fun v_found => (mForB (α := List D) (mBL dEnumL (mCons (M.pure v_rows) (M.pure []))) bnd2 (fun xatturn afound =>
 (mIfx (mOr (mCmp dGe (M.pure xatturn.1) (M.pure (.int 1000000))) (mNot (mTo (callP 3 M_goes (mCons (M.bind (M.bind (M.pure (.int 1)) fun x => M.opt (dNeg x)) fun j => M.opt (dItem (.list afound) j)) (mCons (M.pure v_players) (mCons (M.pure xatturn.2) (M.pure [])))))))) (mRaise1 "BadRows" "at" (M.pure xatturn.1))
 (mApp afound (callP 2 M_behind (mCons (M.bind (M.bind (M.pure (.int 1)) fun x => M.opt (dNeg x)) fun j => M.opt (dItem (.list afound) j)) (mCons (M.pure xatturn.2) (M.pure [])))) (fun v_found => (M.pure (.nx v_found)))))) v_found (fun afound =>
 (M.pure (.retL afound))))))
def W_halls_of (ds : List D) : M (Out Unit Unit) := match ds with
  | [v_hall, v_players, v_rows] => B_halls_of v_hall v_players v_rows
  | _ => M.stuck
def M_halls_of (ds : List D) : M (List D) := retLst (W_halls_of ds)
theorem SC_halls_of : FnScope ["hall", "players", "rows", "found", "at", "turn"] ["hall", "players", "rows"] (defScope (top 26)) := ⟨rfl, rfl, rfl, by decide +kernel, rfl, by decide +kernel, by decide +kernel⟩
theorem ok_halls_of (T : Txt P w K mg base TT) : CallF P w K mg base "halls_of" 5 (spL ⟨K, mg, TT⟩ 3 M_halls_of) := by
  obtain ⟨f, fd, F, hm⟩ := T.d_halls_of
  have SC := SC_halls_of
  refine ⟨f, fd, ["hall", "players", "rows"], fun_L (γ := Unit) (α := Unit) (Γm := fun _ => [.any, .any, .any, .any, .any, .any]) (Γn := fun _ => []) (mb := W_halls_of) (k := 4) F SC rfl fun ds cdv A outer s H E hl hr ck => ?_, hm, F.kp, F.bindsN fun _ _ _ _ _ _ us hl => match us, hl with | [_, _, _], _ => rfl⟩
  match ds, hl with
  | [v_hall, v_players, v_rows], _ =>
  show PSs _ _ (rdS ⟨K, mg, TT⟩ E [.pur v_hall, .pur v_players, .pur v_rows, .any, .any, .any] _ _ (B_halls_of v_hall v_players v_rows))
  exact
 (s_ifx (Γk := fun _ => []) (t_not (t_val (b_isi .list (e_var 2) T.n_isinstance T.n_list))) (s_raise1 (T.oex_BadRows) (hr.mono (by decide)) (e_un un_neg p_neg e_int))
 (s_setL 3 (l_lst (a_cons (e_var 0) a_nil)) (fun v_found =>
 (s_for (Γl := fun afound : List D => [.pur v_hall, .pur v_players, .pur v_rows, .own afound, .any, .any]) (i_enum (Z := ⟨K, mg, TT⟩) (pi_enum rfl T.n_enumerate (a_cons (e_var 2) a_nil))) (pg_tup rfl (pgs_cons (pg_name (i := 4) SC.nd rfl (by first | exact Or.inl rfl | exact Or.inr rfl)) (pgs_cons (pg_name (i := 5) SC.nd rfl (by first | exact Or.inl rfl | exact Or.inr rfl)) pgs_nil))) (tg2 4 5) (fun xatturn afound =>
 (s_ifx (Γk := fun _ => []) (PW.pt (w_or (t_cmp op_ge p_cmp (e_var 4) (e_gint T.c_MOST_ROWS)) (w_or1 (t_not (t_val (b_ofE (cP (ok_goes T) hr (by decide) (a_cons (e_ixOwn 3 (pv 3) (e_un un_neg p_neg e_int)) (a_cons (e_var 1) (a_cons (e_var 5) a_nil)))))))))) (s_raise1 (T.oex_BadRows) (hr.mono (by decide)) (e_var 4))
 (s_append 3 rfl (pe_bm PySem.F.plainAttrs_list PySem.F.slot_list_append PySem.F.type_list_append mt_append (pv 3) (pa_cons (cP (ok_behind T) hr (by decide) (a_cons (e_ixOwn 3 (pv 3) (e_un un_neg p_neg e_int)) (a_cons (e_var 5) a_nil))) pa_nil)) (fun v_found =>
 (s_nil (.same (.same (.same (.same (.any (.any .nil))))))))))) (fun afound =>
 (s_retOwn 3 rfl (pv 3))) (.same (.same (.same (.same (.same (.same .nil))))))))))
def B_knowing_behind (v_rows v_knowing : D) : M (Out Unit Unit) :=
 (M.bind (mBL dListOf (mCons (M.pure v_knowing) (M.pure []))) fun v_found => (mForB (α := List D) (mSeq (M.pure v_rows)) bnd3 (fun xuvg afound =>
 (mIfj (δ := List D) (mAnd (M.bind (M.pure xuvg.1) fun d => M.opt (dInF d afound)) (M.bind (M.pure xuvg.2.1) fun d => M.opt (dNotInF d afound))) (mApp afound (M.pure xuvg.2.1) (fun v_found => (M.pure (.nx v_found)))) (mIfj (δ := List D) (mAnd (M.bind (M.pure xuvg.2.1) fun d => M.opt (dInF d afound)) (M.bind (M.pure xuvg.1) fun d => M.opt (dNotInF d afound))) (mApp afound (M.pure xuvg.1) (fun v_found => (M.pure (.nx v_found)))) (M.pure (.nx afound)) (fun jfound =>
 (M.pure (.nx jfound)))) (fun jfound =>
 (M.pure (.nx jfound))))) v_found (fun afound =>
 (mRet (mB dTuple (mCons (mOfL (mBL dSorted (mCons (M.pure (.list afound)) (M.pure [])))) (M.pure [])))))))
def W_knowing_behind (ds : List D) : M (Out Unit Unit) := match ds with
  | [v_rows, v_knowing] => B_knowing_behind v_rows v_knowing
  | _ => M.stuck
def M_knowing_behind (ds : List D) : M D := retD (W_knowing_behind ds)
theorem SC_knowing_behind : FnScope ["rows", "knowing", "found", "u", "v", "g"] ["rows", "knowing"] (defScope (top 28)) := ⟨rfl, rfl, rfl, by decide +kernel, rfl, by decide +kernel, by decide +kernel⟩
theorem ok_knowing_behind (T : Txt P w K mg base TT) : CallF P w K mg base "knowing_behind" 1 (spP ⟨K, mg, TT⟩ 2 M_knowing_behind) := by
  obtain ⟨f, fd, F, hm⟩ := T.d_knowing_behind
  have SC := SC_knowing_behind
  refine ⟨f, fd, ["rows", "knowing"], fun_P (γ := Unit) (α := Unit) (Γm := fun _ => [.any, .any, .any, .any, .any, .any]) (Γn := fun _ => []) (mb := W_knowing_behind) (k := 0) F SC rfl fun ds cdv A outer s H E hl hr ck => ?_, hm, F.kp, F.bindsN fun _ _ _ _ _ _ us hl => match us, hl with | [_, _], _ => rfl⟩
  match ds, hl with
  | [v_rows, v_knowing], _ =>
  show PSs _ _ (rdS ⟨K, mg, TT⟩ E [.pur v_rows, .pur v_knowing, .any, .any, .any, .any] _ _ (B_knowing_behind v_rows v_knowing))
  exact
 (s_setL 2 (l_callTy (c_list (Z := ⟨K, mg, TT⟩)) p_list T.n_list hv_list (a_cons (e_var 1) a_nil)) (fun v_found =>
 (s_for (Γl := fun afound : List D => [.pur v_rows, .pur v_knowing, .own afound, .any, .any, .any]) (i_seq (Z := ⟨K, mg, TT⟩) (e_var 0)) (pg_tup rfl (pgs_cons (pg_name (i := 3) SC.nd rfl (by first | exact Or.inl rfl | exact Or.inr rfl)) (pgs_cons (pg_name (i := 4) SC.nd rfl (by first | exact Or.inl rfl | exact Or.inr rfl)) (pgs_cons (pg_name (i := 5) SC.nd rfl (by first | exact Or.inl rfl | exact Or.inr rfl)) pgs_nil)))) (tg3 3 4 5) (fun xuvg afound =>
 (s_if (Γk := fun jfound : List D => [.pur v_rows, .pur v_knowing, .own jfound, .pur (xuvg.1), .pur (xuvg.2.1), .pur (xuvg.2.2)]) (PW.pt (w_and (t_inOwn 2 (e_var 3) (pv 2)) (w_and1 (t_notinOwn 2 (e_var 4) (pv 2))))) (s_append 2 rfl (pe_bm PySem.F.plainAttrs_list PySem.F.slot_list_append PySem.F.type_list_append mt_append (pv 2) (pa_cons (e_var 4) pa_nil)) (fun v_found =>
 (s_nil (.same (.same (.same (.same (.same (.same .nil))))))))) (s_if (Γk := fun jfound : List D => [.pur v_rows, .pur v_knowing, .own jfound, .pur (xuvg.1), .pur (xuvg.2.1), .pur (xuvg.2.2)]) (PW.pt (w_and (t_inOwn 2 (e_var 4) (pv 2)) (w_and1 (t_notinOwn 2 (e_var 3) (pv 2))))) (s_append 2 rfl (pe_bm PySem.F.plainAttrs_list PySem.F.slot_list_append PySem.F.type_list_append mt_append (pv 2) (pa_cons (e_var 3) pa_nil)) (fun v_found =>
 (s_nil (.same (.same (.same (.same (.same (.same .nil))))))))) (s_nil (.same (.same (.same (.same (.same (.same .nil))))))) (fun jfound =>
 (s_nil (.same (.same (.same (.same (.same (.same .nil))))))))) (fun jfound =>
 (s_nil (.same (.same (.same (.any (.any (.any .nil)))))))))) (fun afound =>
 (s_freeze 2 rfl (s_ret (e_callTy (c_tuple (Z := ⟨K, mg, TT⟩)) p_tuple T.n_tuple hv_tuple (a_cons (e_ofL (l_callB (c_sorted (Z := ⟨K, mg, TT⟩)) p_sorted T.n_sorted hv_sorted (a_cons (e_var 2) a_nil))) a_nil))))) (.same (.same (.same (.same (.same (.same .nil)))))))))
def B_check_knowing (v_hall v_knowing : D) : M (Out Unit Unit) :=
 (mIfx (mNot (mTo (callP 2 M_is_rising (mCons (M.pure v_knowing) (mCons (mB dLen (mCons (M.pure v_hall) (M.pure []))) (M.pure [])))))) (M.raise ⟨"BadKnowing", []⟩)
 (M.pure (.nx ())))
def W_check_knowing (ds : List D) : M (Out Unit Unit) := match ds with
  | [v_hall, v_knowing] => B_check_knowing v_hall v_knowing
  | _ => M.stuck
def M_check_knowing (ds : List D) : M D := retD (W_check_knowing ds)
theorem SC_check_knowing : FnScope ["hall", "knowing"] ["hall", "knowing"] (defScope (top 29)) := ⟨rfl, rfl, rfl, by decide +kernel, rfl, by decide +kernel, by decide +kernel⟩
theorem ok_check_knowing (T : Txt P w K mg base TT) : CallF P w K mg base "check_knowing" 5 (spP ⟨K, mg, TT⟩ 2 M_check_knowing) := by
  obtain ⟨f, fd, F, hm⟩ := T.d_check_knowing
  have SC := SC_check_knowing
  refine ⟨f, fd, ["hall", "knowing"], fun_P (γ := Unit) (α := Unit) (Γm := fun _ => [.any, .any]) (Γn := fun _ => []) (mb := W_check_knowing) (k := 4) F SC rfl fun ds cdv A outer s H E hl hr ck => ?_, hm, F.kp, F.bindsN fun _ _ _ _ _ _ us hl => match us, hl with | [_, _], _ => rfl⟩
  match ds, hl with
  | [v_hall, v_knowing], _ =>
  show PSs _ _ (rdS ⟨K, mg, TT⟩ E [.pur v_hall, .pur v_knowing] _ _ (B_check_knowing v_hall v_knowing))
  exact
 (s_ifx (Γk := fun _ => []) (t_not (t_val (b_ofE (cP (ok_is_rising T) hr (by decide) (a_cons (e_var 1) (a_cons (e_callB (c_len (Z := ⟨K, mg, TT⟩)) p_len T.n_len hv_len (a_cons (e_var 0) a_nil)) a_nil)))))) (s_raise0 T.x_BadKnowing)
 (s_nil (a := ()) (.any (.any .nil))))
def B_told (v_hall v_players v_rows v_knowing : D) : M (Out Unit Unit) :=
 (mDo (callP 2 M_check_players (mCons (M.pure v_hall) (mCons (M.pure v_players) (M.pure [])))) (mDo (mOfL (callL 3 M_halls_of (mCons (M.pure v_hall) (mCons (M.pure v_players) (mCons (M.pure v_rows) (M.pure [])))))) (mDo (callP 2 M_check_knowing (mCons (M.pure v_hall) (mCons (M.pure v_knowing) (M.pure [])))) (mRet (callP 2 M_knowing_behind (mCons (M.pure v_rows) (mCons (M.pure v_knowing) (M.pure []))))))))
def W_told (ds : List D) : M (Out Unit Unit) := match ds with
  | [v_hall, v_players, v_rows, v_knowing] => B_told v_hall v_players v_rows v_knowing
  | _ => M.stuck
def M_told (ds : List D) : M D := retD (W_told ds)
theorem SC_told : FnScope ["hall", "players", "rows", "knowing"] ["hall", "players", "rows", "knowing"] (defScope (top 30)) := ⟨rfl, rfl, rfl, by decide +kernel, rfl, by decide +kernel, by decide +kernel⟩
theorem ok_told (T : Txt P w K mg base TT) : CallF P w K mg base "told" 8 (spP ⟨K, mg, TT⟩ 4 M_told) := by
  obtain ⟨f, fd, F, hm⟩ := T.d_told
  have SC := SC_told
  refine ⟨f, fd, ["hall", "players", "rows", "knowing"], fun_P (γ := Unit) (α := Unit) (Γm := fun _ => [.any, .any, .any, .any]) (Γn := fun _ => []) (mb := W_told) (k := 7) F SC rfl fun ds cdv A outer s H E hl hr ck => ?_, hm, F.kp, F.bindsN fun _ _ _ _ _ _ us hl => match us, hl with | [_, _, _, _], _ => rfl⟩
  match ds, hl with
  | [v_hall, v_players, v_rows, v_knowing], _ =>
  show PSs _ _ (rdS ⟨K, mg, TT⟩ E [.pur v_hall, .pur v_players, .pur v_rows, .pur v_knowing] _ _ (B_told v_hall v_players v_rows v_knowing))
  exact
 (s_expr (cP (ok_check_players T) hr (by decide) (a_cons (e_var 0) (a_cons (e_var 1) a_nil)))
 (s_expr (e_ofL (cL (ok_halls_of T) hr (by decide) (a_cons (e_var 0) (a_cons (e_var 1) (a_cons (e_var 2) a_nil)))))
 (s_expr (cP (ok_check_knowing T) hr (by decide) (a_cons (e_var 0) (a_cons (e_var 3) a_nil)))
 (s_ret (cP (ok_knowing_behind T) hr (by decide) (a_cons (e_var 2) (a_cons (e_var 3) a_nil)))))))
end
end Law
end
section
set_option Elab.async false
set_option linter.all false
set_option maxRecDepth 100000
set_option maxHeartbeats 4000000
namespace Law
open PySem PySem.Spec PyProof.Rows L2 Sim
section
variable {P : Program} {w : World} {K : PySem.W.Frag} {mg : Str → Option Value} {base : Heap} {TT : List (Addr × Str)}
def B__law_draw (v_many : D) : M (Out Unit Unit) :=
 (mIfj (δ := Unit) (mAnd (mCmp dEq (mIxT (M.pure (.int 2))) (M.pure (.int 0))) (mCmp dLt (mIxT (M.pure (.int 1))) (mB dLen (mCons (mIxT (M.pure (.int 0))) (M.pure []))))) (M.bind (mBin dItem (mIxT (M.pure (.int 0))) (mIxT (M.pure (.int 1)))) fun v_cell => (mStoreT (mBin dAdd (mIxT (M.pure (.int 1))) (M.pure (.int 1))) (M.pure (.int 1)) (mStoreT (mBin dMod (mB dInt (mCons (mBin dAdd (mBin dAdd (mBin dMul (mIxT (M.pure (.int 3))) (M.pure (.int 69621))) (mBin dMul (M.pure v_cell) (M.pure (.int 40692)))) (M.pure (.int 37))) (M.pure []))) (M.pure (.int 2147483629))) (M.pure (.int 3)) (mIfj (δ := Unit) (mCmp dGe (M.pure v_cell) (mBin dPow (M.pure (.int 10)) (M.pure (.int 18)))) (mStoreT (M.pure v_cell) (M.pure (.int 2)) (M.pure (.nx ()))) (M.pure (.nx ())) (fun _ =>
 (M.pure (.nx ()))))))) (M.pure (.nx ())) (fun _ =>
 (mIfx (mCmp dGt (mIxT (M.pure (.int 2))) (M.pure (.int 0))) (M.bind (mBin dMod (mB dInt (mCons (mIxT (M.pure (.int 2))) (M.pure []))) (M.pure v_many)) fun v_digit => (mStoreT (mBin dFdiv (mIxT (M.pure (.int 2))) (M.pure v_many)) (M.pure (.int 2)) (mRet (M.pure v_digit))))
 (mStoreT (mBin dAdd (mIxT (M.pure (.int 4))) (M.pure (.int 1))) (M.pure (.int 4)) (M.bind (mBin dMod (mB dInt (mCons (mBin dMul (mB dInt (mCons (mBin dAdd (mIxT (M.pure (.int 3))) (mBin dMul (M.pure (.int 7919)) (mIxT (M.pure (.int 4))))) (M.pure []))) (M.pure (.int 48271))) (M.pure []))) (M.pure (.int 2147483647))) fun v_number => (M.bind (mBin dMod (mB dInt (mCons (mBin dMul (M.pure v_number) (mBin dAdd (mBin dFdiv (M.pure v_number) (M.pure (.int 1009))) (M.pure (.int 69621)))) (M.pure []))) (M.pure (.int 2147483647))) fun v_number => (M.bind (mBin dMod (mB dInt (mCons (mBin dMul (M.pure v_number) (mBin dAdd (mBin dFdiv (M.pure v_number) (M.pure (.int 2003))) (M.pure (.int 40014)))) (M.pure []))) (M.pure (.int 2147483563))) fun v_number => (mRet (mBin dMod (mB dInt (mCons (mBin dFdiv (M.pure v_number) (M.pure (.int 16))) (M.pure []))) (M.pure v_many))))))))))
def W__law_draw (ds : List D) : M (Out Unit Unit) := match ds with
  | [v_many] => B__law_draw v_many
  | _ => M.stuck
def M__law_draw (ds : List D) : M D := retD (W__law_draw ds)
theorem SC__law_draw : FnScope ["hand", "many", "cell", "digit", "number"] ["hand", "many"] (defScope (top 33)) := ⟨rfl, rfl, rfl, by decide +kernel, rfl, by decide +kernel, by decide +kernel⟩
theorem ok__law_draw (T : Txt P w K mg base TT) : CallF P w K mg base "_law_draw" 1 (spS ⟨K, mg, TT⟩ 1 M__law_draw) := by
  obtain ⟨f, fd, F, hm⟩ := T.d__law_draw
  have SC := SC__law_draw
  refine ⟨f, fd, ["hand", "many"], fun_S (γ := Unit) (α := Unit) (Γm := fun _ => [.any, .any, .any, .any, .any]) (Γn := fun _ => []) (mb := W__law_draw) (k := 0) F SC rfl fun ds cdv A outer s H E hl hr ck ek => ?_, hm, F.kp, F.bindsN fun _ _ _ _ _ _ us hl => match us, hl with | [_, _], _ => rfl⟩
  match ds, hl with
  | [v_many], _ =>
  show PSs _ _ (rdS ⟨K, mg, TT⟩ XF [.thr, .pur v_many, .any, .any, .any] _ _ (B__law_draw v_many))
  exact
 (s_if (Γk := fun _ : Unit => [.thr, .pur v_many, .any, .any, .any]) (PW.pt (w_and (t_cmp (o_eq (Z := ⟨K, mg, TT⟩)) p_eq (e_ixT 0 (pv 0) e_int) e_int) (w_and1 (t_cmp op_lt p_cmp (e_ixT 0 (pv 0) e_int) (e_callB (c_len (Z := ⟨K, mg, TT⟩)) p_len T.n_len hv_len (a_cons (e_ixT 0 (pv 0) e_int) a_nil)))))) (s_set 2 (e_ix (o_ix (Z := ⟨K, mg, TT⟩)) p_ix (e_ixT 0 (pv 0) e_int) (e_ixT 0 (pv 0) e_int)) (fun v_cell =>
 (s_storeT 0 (e_bin (o_add (Z := ⟨K, mg, TT⟩)) p_add (e_ixT 0 (pv 0) e_int) e_int) (pg_sub (pv 0) e_int set_list)
 (s_storeT 0 (e_bin op_mod p_mod (e_callTy call_int1 p_int T.n_int hv_int (a_cons (e_bin (o_add (Z := ⟨K, mg, TT⟩)) p_add (e_bin (o_add (Z := ⟨K, mg, TT⟩)) p_add (e_bin (o_mul (Z := ⟨K, mg, TT⟩)) p_mul (e_ixT 0 (pv 0) e_int) e_int) (e_bin (o_mul (Z := ⟨K, mg, TT⟩)) p_mul (e_var 2) e_int)) e_int) a_nil)) e_int) (pg_sub (pv 0) e_int set_list)
 (s_if (Γk := fun _ : Unit => [.thr, .pur v_many, .pur v_cell, .any, .any]) (t_cmp op_ge p_cmp (e_var 2) (e_bin op_pow p_pow e_int e_int)) (s_storeT 0 (e_var 2) (pg_sub (pv 0) e_int set_list)
 (s_nil (.same (.same (.same (.same (.same .nil))))))) (s_nil (.same (.same (.same (.same (.same .nil)))))) (fun _ =>
 (s_nil (.same (.same (.any (.same (.same .nil)))))))))))) (s_nil (.same (.same (.same (.same (.same .nil)))))) (fun _ =>
 (s_ifx (Γk := fun _ => []) (t_cmp op_gt p_cmp (e_ixT 0 (pv 0) e_int) e_int) (s_set 3 (e_bin op_mod p_mod (e_callTy call_int1 p_int T.n_int hv_int (a_cons (e_ixT 0 (pv 0) e_int) a_nil)) (e_var 1)) (fun v_digit =>
 (s_storeT 0 (e_bin op_fdiv p_fdiv (e_ixT 0 (pv 0) e_int) (e_var 1)) (pg_sub (pv 0) e_int set_list)
 (s_ret (e_var 3)))))
 (s_storeT 0 (e_bin (o_add (Z := ⟨K, mg, TT⟩)) p_add (e_ixT 0 (pv 0) e_int) e_int) (pg_sub (pv 0) e_int set_list)
 (s_set 4 (e_bin op_mod p_mod (e_callTy call_int1 p_int T.n_int hv_int (a_cons (e_bin (o_mul (Z := ⟨K, mg, TT⟩)) p_mul (e_callTy call_int1 p_int T.n_int hv_int (a_cons (e_bin (o_add (Z := ⟨K, mg, TT⟩)) p_add (e_ixT 0 (pv 0) e_int) (e_bin (o_mul (Z := ⟨K, mg, TT⟩)) p_mul e_int (e_ixT 0 (pv 0) e_int))) a_nil)) e_int) a_nil)) e_int) (fun v_number =>
 (s_set 4 (e_bin op_mod p_mod (e_callTy call_int1 p_int T.n_int hv_int (a_cons (e_bin (o_mul (Z := ⟨K, mg, TT⟩)) p_mul (e_var 4) (e_bin (o_add (Z := ⟨K, mg, TT⟩)) p_add (e_bin op_fdiv p_fdiv (e_var 4) e_int) e_int)) a_nil)) e_int) (fun v_number =>
 (s_set 4 (e_bin op_mod p_mod (e_callTy call_int1 p_int T.n_int hv_int (a_cons (e_bin (o_mul (Z := ⟨K, mg, TT⟩)) p_mul (e_var 4) (e_bin (o_add (Z := ⟨K, mg, TT⟩)) p_add (e_bin op_fdiv p_fdiv (e_var 4) e_int) e_int)) a_nil)) e_int) (fun v_number =>
 (s_ret (e_bin op_mod p_mod (e_callTy call_int1 p_int T.n_int hv_int (a_cons (e_bin op_fdiv p_fdiv (e_var 4) e_int) a_nil)) (e_var 1)))))))))))))
def B__law_any (v_some : D) : M (Out Unit Unit) :=
 (mRet (mBin dItem (M.pure v_some) (callS 1 M__law_draw (mCons (mB dLen (mCons (M.pure v_some) (M.pure []))) (M.pure [])))))
def W__law_any (ds : List D) : M (Out Unit Unit) := match ds with
  | [v_some] => B__law_any v_some
  | _ => M.stuck
def M__law_any (ds : List D) : M D := retD (W__law_any ds)
theorem SC__law_any : FnScope ["hand", "some"] ["hand", "some"] (defScope (top 34)) := ⟨rfl, rfl, rfl, by decide +kernel, rfl, by decide +kernel, by decide +kernel⟩
theorem ok__law_any (T : Txt P w K mg base TT) : CallF P w K mg base "_law_any" 2 (spS ⟨K, mg, TT⟩ 1 M__law_any) := by
  obtain ⟨f, fd, F, hm⟩ := T.d__law_any
  have SC := SC__law_any
  refine ⟨f, fd, ["hand", "some"], fun_S (γ := Unit) (α := Unit) (Γm := fun _ => [.any, .any]) (Γn := fun _ => []) (mb := W__law_any) (k := 1) F SC rfl fun ds cdv A outer s H E hl hr ck ek => ?_, hm, F.kp, F.bindsN fun _ _ _ _ _ _ us hl => match us, hl with | [_, _], _ => rfl⟩
  match ds, hl with
  | [v_some], _ =>
  show PSs _ _ (rdS ⟨K, mg, TT⟩ XF [.thr, .pur v_some] _ _ (B__law_any v_some))
  exact
 (s_ret (e_ix (o_ix (Z := ⟨K, mg, TT⟩)) p_ix (e_var 1) (cS 0 (ok__law_draw T) hr (by decide) (pv 0) (a_cons (e_callB (c_len (Z := ⟨K, mg, TT⟩)) p_len T.n_len hv_len (a_cons (e_var 1) a_nil)) a_nil))))
def B__law_some (v_some v_share : D) : M (Out Unit Unit) :=
 (mRet (mB dTuple (mCons (mOfL (mCompB (mSeq (M.pure v_some)) some (fun xone => (mCmp dGt (callS 1 M__law_draw (mCons (M.pure v_share) (M.pure []))) (M.pure (.int 0)))) (fun xone => (M.pure xone)))) (M.pure []))))
def W__law_some (ds : List D) : M (Out Unit Unit) := match ds with
  | [v_some, v_share] => B__law_some v_some v_share
  | _ => M.stuck
def M__law_some (ds : List D) : M D := retD (W__law_some ds)
theorem SC__law_some : FnScope ["hand", "some", "share", "one"] ["hand", "some", "share"] (defScope (top 35)) := ⟨rfl, rfl, rfl, by decide +kernel, rfl, by decide +kernel, by decide +kernel⟩
theorem ok__law_some (T : Txt P w K mg base TT) : CallF P w K mg base "_law_some" 2 (spS ⟨K, mg, TT⟩ 2 M__law_some) := by
  obtain ⟨f, fd, F, hm⟩ := T.d__law_some
  have SC := SC__law_some
  refine ⟨f, fd, ["hand", "some", "share"], fun_S (γ := Unit) (α := Unit) (Γm := fun _ => [.any, .any, .any, .any]) (Γn := fun _ => []) (mb := W__law_some) (k := 1) F SC rfl fun ds cdv A outer s H E hl hr ck ek => ?_, hm, F.kp, F.bindsN fun _ _ _ _ _ _ us hl => match us, hl with | [_, _, _], _ => rfl⟩
  match ds, hl with
  | [v_some, v_share], _ =>
  show PSs _ _ (rdS ⟨K, mg, TT⟩ XF [.thr, .pur v_some, .pur v_share, .any] _ _ (B__law_some v_some v_share))
  exact
 (s_ret (e_callTy (c_tuple (Z := ⟨K, mg, TT⟩)) p_tuple T.n_tuple hv_tuple (a_cons (e_ofL (l_comp (own := [("one", 3)]) (i_seq (Z := ⟨K, mg, TT⟩) (e_var 1)) (blkOk_by (by with_unfolding_all rfl)) (fun _ _ _ _ _ => (pg_name (i := 3) SC.nd rfl (by first | exact Or.inl rfl | exact Or.inr rfl))) (tg1 3) (fun _ _ _ _ _ xone => ts_one (t_cmp op_gt p_cmp (cS 0 (ok__law_draw T) hr (by decide) (pv 0) (a_cons (e_var 2) a_nil)) e_int)) (fun _ _ _ _ _ xone => (e_var 3)))) a_nil)))
def B__law_mixed (v_some : D) : M (Out Unit Unit) :=
 (mParLL (mBL dListOf (mCons (M.pure v_some) (M.pure []))) (mBL dLst (M.pure [])) (fun xleftfound => (andThen (mWhile (α := List D × List D) (fun afoundleft => (mCmp dGt (M.pure (.int (afoundleft.2.length : Nat))) (M.pure (.int 0)))) (fun afoundleft =>
 (mAppPop afoundleft.1 afoundleft.2 (callS 1 M__law_draw (mCons (M.pure (.int (afoundleft.2.length : Nat))) (M.pure []))) (fun zfoundleft => (M.pure (.nx (zfoundleft.1, zfoundleft.2)))))) fuel (xleftfound.2, xleftfound.1)) (fun afoundleft =>
 (M.pure (.retL afoundleft.1))))))
def W__law_mixed (ds : List D) : M (Out Unit Unit) := match ds with
  | [v_some] => B__law_mixed v_some
  | _ => M.stuck
def M__law_mixed (ds : List D) : M (List D) := retLst (W__law_mixed ds)
theorem SC__law_mixed : FnScope ["hand", "some", "left", "found"] ["hand", "some"] (defScope (top 36)) := ⟨rfl, rfl, rfl, by decide +kernel, rfl, by decide +kernel, by decide +kernel⟩
theorem ok__law_mixed (T : Txt P w K mg base TT) : CallF P w K mg base "_law_mixed" 2 (spSL ⟨K, mg, TT⟩ 1 M__law_mixed) := by
  obtain ⟨f, fd, F, hm⟩ := T.d__law_mixed
  have SC := SC__law_mixed
  refine ⟨f, fd, ["hand", "some"], fun_SL (γ := Unit) (α := Unit) (Γm := fun _ => [.any, .any, .any, .any]) (Γn := fun _ => []) (mb := W__law_mixed) (k := 1) F SC rfl fun ds cdv A outer s H E hl hr ck ek => ?_, hm, F.kp, F.bindsN fun _ _ _ _ _ _ us hl => match us, hl with | [_, _], _ => rfl⟩
  match ds, hl with
  | [v_some], _ =>
  show PSs _ _ (rdS ⟨K, mg, TT⟩ XF [.thr, .pur v_some, .any, .any] _ _ (B__law_mixed v_some))
  exact
 (s_parLL 2 3 (pa_cons (l_callTy (c_list (Z := ⟨K, mg, TT⟩)) p_list T.n_list hv_list (a_cons (e_var 1) a_nil)) (pa_cons (l_lst a_nil) pa_nil)) (by decide) (fun xleftfound =>
 (s_while (Γl := fun afoundleft : List D × List D => [.thr, .pur v_some, .own (afoundleft.2), .own (afoundleft.1)]) (fun afoundleft => (t_cmp op_gt p_cmp (e_lenOwn 2 T.n_len (pv 2)) e_int)) (fun afoundleft =>
 (s_appPop 3 2 (by decide) rfl rfl (pe_bm PySem.F.plainAttrs_list PySem.F.slot_list_append PySem.F.type_list_append mt_append (pv 3) (pa_cons (pe_bm PySem.F.plainAttrs_list PySem.F.slot_list_pop PySem.F.type_list_pop mt_popAt (pv 2) (pa_cons (cS 0 (ok__law_draw T) hr (by decide) (pv 0) (a_cons (e_lenOwn 2 T.n_len (pv 2)) a_nil)) pa_nil)) pa_nil)) (fun zfoundleft =>
 (s_nil (.same (.same (.same (.same .nil)))))))) (fun afoundleft =>
 (s_retOwn 3 rfl (pv 3))) (.same (.same (.same (.same .nil)))))))
def B__law_put (v_book v_out v_card : D) : M (Out Unit Unit) :=
 (M.bind (mBL dListOf (mCons (M.pure v_book) (M.pure []))) fun v_left => (mRem v_left (M.pure v_out) (fun v_left => (mRet (mB dTuple (mCons (mOfL (mBL dSorted (mCons (mOfL (mBinL dAddL (M.pure (.list v_left)) (mOfL (mBL dLst (mCons (M.pure v_card) (M.pure [])))))) (M.pure [])))) (M.pure [])))))))
def W__law_put (ds : List D) : M (Out Unit Unit) := match ds with
  | [v_book, v_out, v_card] => B__law_put v_book v_out v_card
  | _ => M.stuck
def M__law_put (ds : List D) : M D := retD (W__law_put ds)
theorem SC__law_put : FnScope ["book", "out", "card", "left"] ["book", "out", "card"] (defScope (top 39)) := ⟨rfl, rfl, rfl, by decide +kernel, rfl, by decide +kernel, by decide +kernel⟩
theorem ok__law_put (T : Txt P w K mg base TT) : CallF P w K mg base "_law_put" 1 (spP ⟨K, mg, TT⟩ 3 M__law_put) := by
  obtain ⟨f, fd, F, hm⟩ := T.d__law_put
  have SC := SC__law_put
  refine ⟨f, fd, ["book", "out", "card"], fun_P (γ := Unit) (α := Unit) (Γm := fun _ => [.any, .any, .any, .any]) (Γn := fun _ => []) (mb := W__law_put) (k := 0) F SC rfl fun ds cdv A outer s H E hl hr ck => ?_, hm, F.kp, F.bindsN fun _ _ _ _ _ _ us hl => match us, hl with | [_, _, _], _ => rfl⟩
  match ds, hl with
  | [v_book, v_out, v_card], _ =>
  show PSs _ _ (rdS ⟨K, mg, TT⟩ E [.pur v_book, .pur v_out, .pur v_card, .any] _ _ (B__law_put v_book v_out v_card))
  exact
 (s_setL 3 (l_callTy (c_list (Z := ⟨K, mg, TT⟩)) p_list T.n_list hv_list (a_cons (e_var 0) a_nil)) (fun v_left =>
 (s_remove 3 rfl (pe_bm PySem.F.plainAttrs_list PySem.F.slot_list_remove PySem.F.type_list_remove mt_remove (pv 3) (pa_cons (e_var 1) pa_nil)) (fun v_left =>
 (s_freeze 3 rfl (s_ret (e_callTy (c_tuple (Z := ⟨K, mg, TT⟩)) p_tuple T.n_tuple hv_tuple (a_cons (e_ofL (l_callB (c_sorted (Z := ⟨K, mg, TT⟩)) p_sorted T.n_sorted hv_sorted (a_cons (e_ofL (l_bin op_cat p_addL (e_var 3) (e_ofL (l_lst (a_cons (e_var 2) a_nil))))) a_nil))) a_nil))))))))
def B__law_done (v_hall v_turn : D) : M (Out Unit Unit) :=
 (mUnp (M.pure v_turn) bnd3 (fun xuvg => (mRet (mB dTuple (mCons (mOfL (mCompB (mBL dEnumT (mCons (M.pure v_hall) (M.pure []))) bnd2 yes (fun xatbook => (mIf (mCmp dEq (M.pure xatbook.1) (M.pure xuvg.1)) (callP 3 M__law_put (mCons (M.pure xatbook.2) (mCons (M.pure xuvg.2.1) (mCons (M.pure xuvg.2.2) (M.pure []))))) (mIf (mCmp dEq (M.pure xatbook.1) (M.pure xuvg.2.1)) (callP 3 M__law_put (mCons (M.pure xatbook.2) (mCons (M.pure xuvg.2.2) (mCons (M.pure xuvg.1) (M.pure []))))) (M.pure xatbook.2)))))) (M.pure []))))))
def W__law_done (ds : List D) : M (Out Unit Unit) := match ds with
  | [v_hall, v_turn] => B__law_done v_hall v_turn
  | _ => M.stuck
def M__law_done (ds : List D) : M D := retD (W__law_done ds)
theorem SC__law_done : FnScope ["hall", "turn", "u", "v", "g", "at", "book"] ["hall", "turn"] (defScope (top 40)) := ⟨rfl, rfl, rfl, by decide +kernel, rfl, by decide +kernel, by decide +kernel⟩
theorem ok__law_done (T : Txt P w K mg base TT) : CallF P w K mg base "_law_done" 2 (spP ⟨K, mg, TT⟩ 2 M__law_done) := by
  obtain ⟨f, fd, F, hm⟩ := T.d__law_done
  have SC := SC__law_done
  refine ⟨f, fd, ["hall", "turn"], fun_P (γ := Unit) (α := Unit) (Γm := fun _ => [.any, .any, .any, .any, .any, .any, .any]) (Γn := fun _ => []) (mb := W__law_done) (k := 1) F SC rfl fun ds cdv A outer s H E hl hr ck => ?_, hm, F.kp, F.bindsN fun _ _ _ _ _ _ us hl => match us, hl with | [_, _], _ => rfl⟩
  match ds, hl with
  | [v_hall, v_turn], _ =>
  show PSs _ _ (rdS ⟨K, mg, TT⟩ E [.pur v_hall, .pur v_turn, .any, .any, .any, .any, .any] _ _ (B__law_done v_hall v_turn))
  exact
 (s_unpack (e_var 1) (pg_tup rfl (pgs_cons (pg_name (i := 2) SC.nd rfl (by first | exact Or.inl rfl | exact Or.inr rfl)) (pgs_cons (pg_name (i := 3) SC.nd rfl (by first | exact Or.inl rfl | exact Or.inr rfl)) (pgs_cons (pg_name (i := 4) SC.nd rfl (by first | exact Or.inl rfl | exact Or.inr rfl)) pgs_nil)))) (tg3 2 3 4) (fun xuvg =>
 (s_ret (e_callTy (c_tuple (Z := ⟨K, mg, TT⟩)) p_tuple T.n_tuple hv_tuple (a_cons (e_ofL (l_comp (own := [("at", 5), ("book", 6)]) (i_enumT (Z := ⟨K, mg, TT⟩) (pi_enumT rfl T.n_enumerate (a_cons (e_var 0) a_nil))) (blkOk_by (by with_unfolding_all rfl)) (fun _ _ _ _ _ => (pg_tup rfl (pgs_cons (pg_name (i := 5) SC.nd rfl (by first | exact Or.inl rfl | exact Or.inr rfl)) (pgs_cons (pg_name (i := 6) SC.nd rfl (by first | exact Or.inl rfl | exact Or.inr rfl)) pgs_nil)))) (tg2 5 6) (fun _ _ _ _ _ xatbook => ts_nil (m := yes)) (fun _ _ _ _ _ xatbook => (e_if (t_cmp (o_eq (Z := ⟨K, mg, TT⟩)) p_eq (e_var 5) (e_var 2)) (cP (ok__law_put T) hr (by decide) (a_cons (e_var 6) (a_cons (e_var 3) (a_cons (e_var 4) a_nil)))) (e_if (t_cmp (o_eq (Z := ⟨K, mg, TT⟩)) p_eq (e_var 5) (e_var 3)) (cP (ok__law_put T) hr (by decide) (a_cons (e_var 6) (a_cons (e_var 4) (a_cons (e_var 2) a_nil)))) (e_var 6)))))) a_nil)))))
def B__law_odd : M (Out Unit Unit) :=
 (M.bind (M.pure .none) fun v_deep => (mForB (α := D) (mBL dRng1 (mCons (mBin dAdd (M.pure (.int 1)) (callS 1 M__law_draw (mCons (M.pure (.int 30)) (M.pure [])))) (M.pure []))) some (fun xturn adeep =>
 (M.bind (mBin dItem (mOfL (mBL dLst (mCons (mB dTup (mCons (M.pure adeep) (M.pure []))) (mCons (mOfL (mBL dLst (mCons (M.pure adeep) (M.pure [])))) (mCons (mDict1 0 (M.pure adeep)) (M.pure [])))))) (callS 1 M__law_draw (mCons (M.pure (.int 3)) (M.pure [])))) fun v_deep => (M.pure (.nx v_deep)))) v_deep (fun adeep =>
 (mRet (callS 1 M__law_any (mCons (mOfL (mBL dLst (mCons (M.pure .none) (mCons (M.bind (M.pure (.int 1)) fun x => M.opt (dNeg x)) (mCons (mOfB (M.pure true)) (mCons (M.pure (.str "")) (mCons (M.pure (.str "turn")) (mCons (M.pure (.dict [])) (mCons (mB dTup (mCons (mB dTup (M.pure [])) (M.pure []))) (mCons (mB dTup (mCons (M.pure (.str "turn")) (M.pure []))) (mCons (mB dTup (mCons (M.pure .none) (mCons (M.pure .none) (M.pure [])))) (mCons (M.pure (.str "0")) (mCons (mBin dPow (M.pure (.int 10)) (M.pure (.int 11))) (mCons (M.pure adeep) (M.pure []))))))))))))))) (M.pure [])))))))
def W__law_odd (ds : List D) : M (Out Unit Unit) := match ds with
  | [] => B__law_odd 
  | _ => M.stuck
def M__law_odd (ds : List D) : M D := retD (W__law_odd ds)
theorem SC__law_odd : FnScope ["hand", "deep", "turn"] ["hand"] (defScope (top 41)) := ⟨rfl, rfl, rfl, by decide +kernel, rfl, by decide +kernel, by decide +kernel⟩
theorem ok__law_odd (T : Txt P w K mg base TT) : CallF P w K mg base "_law_odd" 3 (spS ⟨K, mg, TT⟩ 0 M__law_odd) := by
  obtain ⟨f, fd, F, hm⟩ := T.d__law_odd
  have SC := SC__law_odd
  refine ⟨f, fd, ["hand"], fun_S (γ := Unit) (α := Unit) (Γm := fun _ => [.any, .any, .any]) (Γn := fun _ => []) (mb := W__law_odd) (k := 2) F SC rfl fun ds cdv A outer s H E hl hr ck ek => ?_, hm, F.kp, F.bindsN fun _ _ _ _ _ _ us hl => match us, hl with | [_], _ => rfl⟩
  match ds, hl with
  | [], _ =>
  show PSs _ _ (rdS ⟨K, mg, TT⟩ XF [.thr, .any, .any] _ _ (B__law_odd ))
  unfold B__law_odd
  exact
 (s_set 1 e_non (fun v_deep =>
 (s_for (Γl := fun adeep : D => [.thr, .pur adeep, .any]) (i_rng1 (pi_range1 rfl T.n_range (a_cons (e_bin (o_add (Z := ⟨K, mg, TT⟩)) p_add e_int (cS 0 (ok__law_draw T) hr (by decide) (pv 0) (a_cons e_int a_nil))) a_nil))) (pg_name (i := 2) SC.nd rfl (by first | exact Or.inl rfl | exact Or.inr rfl)) (tg1 2) (fun xturn adeep =>
 (s_set 1 (e_ix (o_ix (Z := ⟨K, mg, TT⟩)) p_ix (e_ofL (l_lst (a_cons (e_tup (a_cons (e_var 1) a_nil)) (a_cons (e_ofL (l_lst (a_cons (e_var 1) a_nil))) (a_cons (e_dict1 (e_var 1)) a_nil))))) (cS 0 (ok__law_draw T) hr (by decide) (pv 0) (a_cons e_int a_nil))) (fun v_deep =>
 (s_nil (.same (.same (.any .nil))))))) (fun adeep =>
 (s_ret (cS 0 (ok__law_any T) hr (by decide) (pv 0) (a_cons (e_ofL (l_lst (a_cons e_non (a_cons (e_un un_neg p_neg e_int) (a_cons (e_ofB b_bool) (a_cons e_str (a_cons e_str (a_cons e_dict0 (a_cons (e_tup (a_cons (e_tup a_nil) a_nil)) (a_cons (e_tup (a_cons e_str a_nil)) (a_cons (e_tup (a_cons e_non (a_cons e_non a_nil))) (a_cons e_str (a_cons (e_bin op_pow p_pow e_int e_int) (a_cons (e_var 1) a_nil)))))))))))))) a_nil)))) (.same (.same (.same .nil))))))
def B__law_goes (v_hall v_players v_thing : D) : M (Out Unit Unit) :=
 (mIfx (mOr (mNot (mIsI .tuple (M.pure v_thing))) (mCmp dNe (mB dLen (mCons (M.pure v_thing) (M.pure []))) (M.pure (.int 3)))) (mRet (mOfB (M.pure false)))
 (mIfx (mNot (mBB dAll (mCons (mOfL (mCompB (mSeq (M.pure v_thing)) some yes (fun xone => (mOfB (mAnd (mIsI .int (M.pure xone)) (mAnd (mNot (mIsI .bool (M.pure xone))) (mChain dLe dLt (M.pure (.int 0)) (M.pure xone) (mB dLen (mCons (M.pure v_hall) (M.pure [])))))))))) (M.pure [])))) (mRet (mOfB (M.pure false)))
 (mUnp (M.pure v_thing) bnd3 (fun xuvg => (mRet (mOfB (mAnd (mCmp dNe (M.pure xuvg.1) (M.pure xuvg.2.1)) (mAnd (mCmp dIn (M.pure xuvg.1) (M.pure v_players)) (mAnd (mCmp dIn (M.pure xuvg.2.1) (M.pure v_players)) (mAnd (mCmp dIn (M.pure xuvg.2.1) (mBin dItem (M.pure v_hall) (M.pure xuvg.1))) (mCmp dIn (M.pure xuvg.2.2) (mBin dItem (M.pure v_hall) (M.pure xuvg.2.1)))))))))))))
def W__law_goes (ds : List D) : M (Out Unit Unit) := match ds with
  | [v_hall, v_players, v_thing] => B__law_goes v_hall v_players v_thing
  | _ => M.stuck
def M__law_goes (ds : List D) : M D := retD (W__law_goes ds)
theorem SC__law_goes : FnScope ["hall", "players", "thing", "one", "u", "v", "g"] ["hall", "players", "thing"] (defScope (top 45)) := ⟨rfl, rfl, rfl, by decide +kernel, rfl, by decide +kernel, by decide +kernel⟩
theorem ok__law_goes (T : Txt P w K mg base TT) : CallF P w K mg base "_law_goes" 1 (spP ⟨K, mg, TT⟩ 3 M__law_goes) := by
  obtain ⟨f, fd, F, hm⟩ := T.d__law_goes
  have SC := SC__law_goes
  refine ⟨f, fd, ["hall", "players", "thing"], fun_P (γ := Unit) (α := Unit) (Γm := fun _ => [.any, .any, .any, .any, .any, .any, .any]) (Γn := fun _ => []) (mb := W__law_goes) (k := 0) F SC rfl fun ds cdv A outer s H E hl hr ck => ?_, hm, F.kp, F.bindsN fun _ _ _ _ _ _ us hl => match us, hl with | [_, _, _], _ => rfl⟩
  match ds, hl with
  | [v_hall, v_players, v_thing], _ =>
  show PSs _ _ (rdS ⟨K, mg, TT⟩ E [.pur v_hall, .pur v_players, .pur v_thing, .any, .any, .any, .any] _ _ (B__law_goes v_hall v_players v_thing))
  exact
 (s_ifx (Γk := fun _ => []) (PW.pt (w_or (t_not (t_val (b_isi .tuple (e_var 2) T.n_isinstance T.n_tuple))) (w_or1 (t_cmp (o_ne (Z := ⟨K, mg, TT⟩)) p_ne (e_callB (c_len (Z := ⟨K, mg, TT⟩)) p_len T.n_len hv_len (a_cons (e_var 2) a_nil)) e_int)))) (s_ret (e_ofB b_bool))
 (s_ifx (Γk := fun _ => []) (t_not (t_val (b_callB (c_all (Z := ⟨K, mg, TT⟩)) p_all T.n_all hv_all (a_cons (e_ofL (l_comp (own := [("one", 3)]) (i_seq (Z := ⟨K, mg, TT⟩) (e_var 2)) (blkOk_by (by with_unfolding_all rfl)) (fun _ _ _ _ _ => (pg_name (i := 3) SC.nd rfl (by first | exact Or.inl rfl | exact Or.inr rfl))) (tg1 3) (fun _ _ _ _ _ xone => ts_nil (m := yes)) (fun _ _ _ _ _ xone => (e_ofB (b_and (b_isi .int (e_var 3) T.n_isinstance T.n_int) (b_and (b_not (b_isi .bool (e_var 3) T.n_isinstance T.n_bool)) (b_one (b_chain op_le p_cmp op_lt p_cmp e_int (e_var 3) (e_callB (c_len (Z := ⟨K, mg, TT⟩)) p_len T.n_len hv_len (a_cons (e_var 0) a_nil)))))))))) a_nil)))) (s_ret (e_ofB b_bool))
 (s_unpack (e_var 2) (pg_tup rfl (pgs_cons (pg_name (i := 4) SC.nd rfl (by first | exact Or.inl rfl | exact Or.inr rfl)) (pgs_cons (pg_name (i := 5) SC.nd rfl (by first | exact Or.inl rfl | exact Or.inr rfl)) (pgs_cons (pg_name (i := 6) SC.nd rfl (by first | exact Or.inl rfl | exact Or.inr rfl)) pgs_nil)))) (tg3 4 5 6) (fun xuvg =>
 (s_ret (e_ofB (b_and (b_cmp (o_ne (Z := ⟨K, mg, TT⟩)) p_ne (e_var 4) (e_var 5)) (b_and (b_cmp (o_in (Z := ⟨K, mg, TT⟩)) p_in (e_var 4) (e_var 1)) (b_and (b_cmp (o_in (Z := ⟨K, mg, TT⟩)) p_in (e_var 5) (e_var 1)) (b_and (b_cmp (o_in (Z := ⟨K, mg, TT⟩)) p_in (e_var 5) (e_ix (o_ix (Z := ⟨K, mg, TT⟩)) p_ix (e_var 0) (e_var 4))) (b_one (b_cmp (o_in (Z := ⟨K, mg, TT⟩)) p_in (e_var 6) (e_ix (o_ix (Z := ⟨K, mg, TT⟩)) p_ix (e_var 0) (e_var 5))))))))))))))
def B__law_spread (v_rows v_knowing : D) : M (Out Unit Unit) :=
 (M.bind (mBL dListOf (mCons (M.pure v_knowing) (M.pure []))) fun v_found => (mForB (α := List D) (mSeq (M.pure v_rows)) bnd3 (fun xuvg afound =>
 (mIfj (δ := List D) (mAnd (M.bind (M.pure xuvg.1) fun d => M.opt (dInF d afound)) (M.bind (M.pure xuvg.2.1) fun d => M.opt (dNotInF d afound))) (mApp afound (M.pure xuvg.2.1) (fun v_found => (M.pure (.nx v_found)))) (mIfj (δ := List D) (mAnd (M.bind (M.pure xuvg.2.1) fun d => M.opt (dInF d afound)) (M.bind (M.pure xuvg.1) fun d => M.opt (dNotInF d afound))) (mApp afound (M.pure xuvg.1) (fun v_found => (M.pure (.nx v_found)))) (M.pure (.nx afound)) (fun jfound =>
 (M.pure (.nx jfound)))) (fun jfound =>
 (M.pure (.nx jfound))))) v_found (fun afound =>
 (mRet (mB dTuple (mCons (mOfL (mBL dSorted (mCons (M.pure (.list afound)) (M.pure [])))) (M.pure [])))))))
def W__law_spread (ds : List D) : M (Out Unit Unit) := match ds with
  | [v_rows, v_knowing] => B__law_spread v_rows v_knowing
  | _ => M.stuck
def M__law_spread (ds : List D) : M D := retD (W__law_spread ds)
theorem SC__law_spread : FnScope ["rows", "knowing", "found", "u", "v", "g"] ["rows", "knowing"] (defScope (top 43)) := ⟨rfl, rfl, rfl, by decide +kernel, rfl, by decide +kernel, by decide +kernel⟩
theorem ok__law_spread (T : Txt P w K mg base TT) : CallF P w K mg base "_law_spread" 1 (spP ⟨K, mg, TT⟩ 2 M__law_spread) := by
  obtain ⟨f, fd, F, hm⟩ := T.d__law_spread
  have SC := SC__law_spread
  refine ⟨f, fd, ["rows", "knowing"], fun_P (γ := Unit) (α := Unit) (Γm := fun _ => [.any, .any, .any, .any, .any, .any]) (Γn := fun _ => []) (mb := W__law_spread) (k := 0) F SC rfl fun ds cdv A outer s H E hl hr ck => ?_, hm, F.kp, F.bindsN fun _ _ _ _ _ _ us hl => match us, hl with | [_, _], _ => rfl⟩
  match ds, hl with
  | [v_rows, v_knowing], _ =>
  show PSs _ _ (rdS ⟨K, mg, TT⟩ E [.pur v_rows, .pur v_knowing, .any, .any, .any, .any] _ _ (B__law_spread v_rows v_knowing))
  exact
 (s_setL 2 (l_callTy (c_list (Z := ⟨K, mg, TT⟩)) p_list T.n_list hv_list (a_cons (e_var 1) a_nil)) (fun v_found =>
 (s_for (Γl := fun afound : List D => [.pur v_rows, .pur v_knowing, .own afound, .any, .any, .any]) (i_seq (Z := ⟨K, mg, TT⟩) (e_var 0)) (pg_tup rfl (pgs_cons (pg_name (i := 3) SC.nd rfl (by first | exact Or.inl rfl | exact Or.inr rfl)) (pgs_cons (pg_name (i := 4) SC.nd rfl (by first | exact Or.inl rfl | exact Or.inr rfl)) (pgs_cons (pg_name (i := 5) SC.nd rfl (by first | exact Or.inl rfl | exact Or.inr rfl)) pgs_nil)))) (tg3 3 4 5) (fun xuvg afound =>
 (s_if (Γk := fun jfound : List D => [.pur v_rows, .pur v_knowing, .own jfound, .pur (xuvg.1), .pur (xuvg.2.1), .pur (xuvg.2.2)]) (PW.pt (w_and (t_inOwn 2 (e_var 3) (pv 2)) (w_and1 (t_notinOwn 2 (e_var 4) (pv 2))))) (s_append 2 rfl (pe_bm PySem.F.plainAttrs_list PySem.F.slot_list_append PySem.F.type_list_append mt_append (pv 2) (pa_cons (e_var 4) pa_nil)) (fun v_found =>
 (s_nil (.same (.same (.same (.same (.same (.same .nil))))))))) (s_if (Γk := fun jfound : List D => [.pur v_rows, .pur v_knowing, .own jfound, .pur (xuvg.1), .pur (xuvg.2.1), .pur (xuvg.2.2)]) (PW.pt (w_and (t_inOwn 2 (e_var 4) (pv 2)) (w_and1 (t_notinOwn 2 (e_var 3) (pv 2))))) (s_append 2 rfl (pe_bm PySem.F.plainAttrs_list PySem.F.slot_list_append PySem.F.type_list_append mt_append (pv 2) (pa_cons (e_var 3) pa_nil)) (fun v_found =>
 (s_nil (.same (.same (.same (.same (.same (.same .nil))))))))) (s_nil (.same (.same (.same (.same (.same (.same .nil))))))) (fun jfound =>
 (s_nil (.same (.same (.same (.same (.same (.same .nil))))))))) (fun jfound =>
 (s_nil (.same (.same (.same (.any (.any (.any .nil)))))))))) (fun afound =>
 (s_freeze 2 rfl (s_ret (e_callTy (c_tuple (Z := ⟨K, mg, TT⟩)) p_tuple T.n_tuple hv_tuple (a_cons (e_ofL (l_callB (c_sorted (Z := ⟨K, mg, TT⟩)) p_sorted T.n_sorted hv_sorted (a_cons (e_var 2) a_nil))) a_nil))))) (.same (.same (.same (.same (.same (.same .nil)))))))))
def B__law_first_bad (v_hall v_players v_rows : D) : M (Out Unit Unit) :=
 (mIfx (mNot (mIsI .list (M.pure v_rows))) (mRet (M.bind (M.pure (.int 1)) fun x => M.opt (dNeg x)))
 (mForB (α := D) (mBL dEnumL (mCons (M.pure v_rows) (M.pure []))) bnd2 (fun xatthing ahall =>
 (mIfx (mNot (mTo (callP 3 M__law_goes (mCons (M.pure ahall) (mCons (M.pure v_players) (mCons (M.pure xatthing.2) (M.pure []))))))) (mRet (M.pure xatthing.1))
 (M.bind (callP 2 M__law_done (mCons (M.pure ahall) (mCons (M.pure xatthing.2) (M.pure [])))) fun v_hall => (M.pure (.nx v_hall))))) v_hall (fun ahall =>
 (mRet (M.pure .none)))))
def W__law_first_bad (ds : List D) : M (Out Unit Unit) := match ds with
  | [v_hall, v_players, v_rows] => B__law_first_bad v_hall v_players v_rows
  | _ => M.stuck
def M__law_first_bad (ds : List D) : M D := retD (W__law_first_bad ds)
theorem SC__law_first_bad : FnScope ["hall", "players", "rows", "at", "thing"] ["hall", "players", "rows"] (defScope (top 46)) := ⟨rfl, rfl, rfl, by decide +kernel, rfl, by decide +kernel, by decide +kernel⟩
theorem ok__law_first_bad (T : Txt P w K mg base TT) : CallF P w K mg base "_law_first_bad" 3 (spP ⟨K, mg, TT⟩ 3 M__law_first_bad) := by
  obtain ⟨f, fd, F, hm⟩ := T.d__law_first_bad
  have SC := SC__law_first_bad
  refine ⟨f, fd, ["hall", "players", "rows"], fun_P (γ := Unit) (α := Unit) (Γm := fun _ => [.any, .any, .any, .any, .any]) (Γn := fun _ => []) (mb := W__law_first_bad) (k := 2) F SC rfl fun ds cdv A outer s H E hl hr ck => ?_, hm, F.kp, F.bindsN fun _ _ _ _ _ _ us hl => match us, hl with | [_, _, _], _ => rfl⟩
  match ds, hl with
  | [v_hall, v_players, v_rows], _ =>
  show PSs _ _ (rdS ⟨K, mg, TT⟩ E [.pur v_hall, .pur v_players, .pur v_rows, .any, .any] _ _ (B__law_first_bad v_hall v_players v_rows))
  exact
 (s_ifx (Γk := fun _ => []) (t_not (t_val (b_isi .list (e_var 2) T.n_isinstance T.n_list))) (s_ret (e_un un_neg p_neg e_int))
 (s_for (Γl := fun ahall : D => [.pur ahall, .pur v_players, .pur v_rows, .any, .any]) (i_enum (Z := ⟨K, mg, TT⟩) (pi_enum rfl T.n_enumerate (a_cons (e_var 2) a_nil))) (pg_tup rfl (pgs_cons (pg_name (i := 3) SC.nd rfl (by first | exact Or.inl rfl | exact Or.inr rfl)) (pgs_cons (pg_name (i := 4) SC.nd rfl (by first | exact Or.inl rfl | exact Or.inr rfl)) pgs_nil))) (tg2 3 4) (fun xatthing ahall =>
 (s_ifx (Γk := fun _ => []) (t_not (t_val (b_ofE (cP (ok__law_goes T) hr (by decide) (a_cons (e_var 0) (a_cons (e_var 1) (a_cons (e_var 4) a_nil))))))) (s_ret (e_var 3))
 (s_set 0 (cP (ok__law_done T) hr (by decide) (a_cons (e_var 0) (a_cons (e_var 4) a_nil))) (fun v_hall =>
 (s_nil (.same (.same (.same (.any (.any .nil)))))))))) (fun ahall =>
 (s_ret e_non)) (.same (.same (.same (.same (.same .nil)))))))
def B__law_hall (v_most_persons v_most_cards : D) : M (Out Unit Unit) :=
 (mPar (mCons (mBin dAdd (M.pure (.int 1)) (callS 1 M__law_draw (mCons (M.pure v_most_persons) (M.pure [])))) (mCons (callS 1 M__law_draw (mCons (M.pure (.int 4)) (M.pure []))) (M.pure []))) (fun xpersonsshape => (M.bind (mCompBL (mBL dRng1 (mCons (M.pure xpersonsshape.1) (M.pure []))) some (fun xperson => (mBL dLst (M.pure [])))) fun v_books => (M.bind (callSL 1 M__law_mixed (mCons (mOfL (mLRng (mRng1 (M.pure xpersonsshape.1)))) (M.pure []))) fun v_order => (mForB (α := List (List D)) (mBL dRng2 (mCons (M.pure (.int 1)) (mCons (M.pure xpersonsshape.1) (M.pure [])))) some (fun xat abooks =>
 (mIfj (δ := List (List D)) (mCmp dGt (M.pure xpersonsshape.2) (M.pure (.int 0))) (mPar (mCons (M.bind (M.pure xat) fun j => M.opt (dItem (.list v_order) j)) (mCons (M.bind (callS 1 M__law_draw (mCons (M.pure xat) (M.pure []))) fun j => M.opt (dItem (.list v_order) j)) (M.pure []))) (fun xoneother => (mIfj (δ := D × D) (mCmp dEq (callS 1 M__law_draw (mCons (M.pure (.int 2)) (M.pure []))) (M.pure (.int 0))) (mPar (mCons (M.pure xoneother.2) (mCons (M.pure xoneother.1) (M.pure []))) (fun xoneother => (M.pure (.nx (xoneother.1, xoneother.2))))) (M.pure (.nx (xoneother.1, xoneother.2))) (fun joneother =>
 (mApp2 abooks (M.pure joneother.1) (M.pure joneother.2) (fun v_books => (M.pure (.nx v_books)))))))) (M.pure (.nx abooks)) (fun jbooks =>
 (M.pure (.nx jbooks))))) v_books (fun abooks =>
 (M.bind (mBin dAdd (M.pure (.int 1)) (callS 1 M__law_draw (mCons (M.pure v_most_cards) (M.pure [])))) fun v_few => (mForB (α := List (List D)) (mBL dRng1 (mCons (M.pure xpersonsshape.1) (M.pure []))) some (fun xperson abooks =>
 (mIfj (δ := List (List D)) (mOr (mCmp dLt (M.pure xpersonsshape.2) (M.pure (.int 3))) (mCmp dEq (callS 1 M__law_draw (mCons (M.pure (.int 3)) (M.pure []))) (M.pure (.int 0)))) (mForB (α := List (List D)) (mBL dRng1 (mCons (callS 1 M__law_draw (mCons (mBin dAdd (M.pure v_few) (M.pure (.int 1))) (M.pure []))) (M.pure []))) some (fun xturn abooks =>
 (mApp2 abooks (M.pure xperson) (callS 1 M__law_draw (mCons (M.pure xpersonsshape.1) (M.pure []))) (fun v_books => (M.pure (.nx v_books))))) abooks (fun abooks =>
 (M.pure (.nx abooks)))) (M.pure (.nx abooks)) (fun jbooks =>
 (M.pure (.nx jbooks))))) abooks (fun abooks =>
 (mIfj (δ := List (List D)) (mCmp dEq (callS 1 M__law_draw (mCons (M.pure (.int 3)) (M.pure []))) (M.pure (.int 0))) (mPut2 abooks (mBL dLst (M.pure [])) (callS 1 M__law_draw (mCons (M.pure xpersonsshape.1) (M.pure []))) (fun v_books => (M.pure (.nx v_books)))) (M.pure (.nx abooks)) (fun jbooks =>
 (M.bind (mTRng (mRng1 (M.pure xpersonsshape.1))) fun v_players => (mIfj (δ := D) (mCmp dEq (callS 1 M__law_draw (mCons (M.pure (.int 2)) (M.pure []))) (M.pure (.int 0))) (M.bind (callS 2 M__law_some (mCons (mOfL (mBL dListOf (mCons (M.pure v_players) (M.pure [])))) (mCons (M.pure (.int 5)) (M.pure [])))) fun v_players => (M.pure (.nx v_players))) (M.pure (.nx v_players)) (fun jplayers =>
 (mRetL (mBL dLst (mCons (mB dTuple (mCons (mOfL (mCompB (mSeq (M.pure (.list (List.map PyData.list jbooks)))) some yes (fun xbook => (mB dTuple (mCons (mOfL (mBL dSorted (mCons (mOfL (mSlL (M.pure xbook) (M.pure none) (mEnd (M.pure v_most_cards)))) (M.pure [])))) (M.pure [])))))) (M.pure []))) (mCons (M.pure jplayers) (M.pure [])))))))))))))))))))
def W__law_hall (ds : List D) : M (Out Unit Unit) := match ds with
  | [v_most_persons, v_most_cards] => B__law_hall v_most_persons v_most_cards
  | _ => M.stuck
def M__law_hall (ds : List D) : M (List D) := retLst (W__law_hall ds)
theorem SC__law_hall : FnScope ["hand", "most_persons", "most_cards", "persons", "shape", "books", "person", "order", "at", "one", "other", "few", "turn", "players", "book"] ["hand", "most_persons", "most_cards"] (defScope (top 38)) := ⟨rfl, rfl, rfl, by decide +kernel, rfl, by decide +kernel, by decide +kernel⟩
theorem ok__law_hall (T : Txt P w K mg base TT) : CallF P w K mg base "_law_hall" 3 (spSL ⟨K, mg, TT⟩ 2 M__law_hall) := by
  obtain ⟨f, fd, F, hm⟩ := T.d__law_hall
  have SC := SC__law_hall
  refine ⟨f, fd, ["hand", "most_persons", "most_cards"], fun_SL (γ := Unit) (α := Unit) (Γm := fun _ => [.any, .any, .any, .any, .any, .any, .any, .any, .any, .any, .any, .any, .any, .any, .any]) (Γn := fun _ => []) (mb := W__law_hall) (k := 2) F SC rfl fun ds cdv A outer s H E hl hr ck ek => ?_, hm, F.kp, F.bindsN fun _ _ _ _ _ _ us hl => match us, hl with | [_, _, _], _ => rfl⟩
  match ds, hl with
  | [v_most_persons, v_most_cards], _ =>
  show PSs _ _ (rdS ⟨K, mg, TT⟩ XF [.thr, .pur v_most_persons, .pur v_most_cards, .any, .any, .any, .any, .any, .any, .any, .any, .any, .any, .any, .any] _ _ (B__law_hall v_most_persons v_most_cards))
  exact
 (s_par 3 4 (a_cons (e_bin (o_add (Z := ⟨K, mg, TT⟩)) p_add e_int (cS 0 (ok__law_draw T) hr (by decide) (pv 0) (a_cons (e_var 1) a_nil))) (a_cons (cS 0 (ok__law_draw T) hr (by decide) (pv 0) (a_cons e_int a_nil)) a_nil)) (by decide) (fun xpersonsshape =>
 (s_setC2 5 (own := [("person", 6)]) (i_rng1 (pi_range1 rfl T.n_range (a_cons (e_var 3) a_nil))) (blkOk_by (by with_unfolding_all rfl)) (fun _ _ _ _ _ => (pg_name (i := 6) SC.nd rfl (by first | exact Or.inl rfl | exact Or.inr rfl))) (tg1 6) (fun _ _ _ _ _ xperson => (l_lst a_nil)) (fun v_books =>
 (s_setL 7 (cSL 0 (ok__law_mixed T) hr (by decide) (pv 0) (a_cons (e_ofL (l_rng1 (pe_listRg rfl rfl T.n_list (prg_1 rfl T.n_range (e_var 3))))) a_nil)) (fun v_order =>
 (s_for (Γl := fun abooks : List (List D) => [.thr, .pur v_most_persons, .pur v_most_cards, .pur (xpersonsshape.1), .pur (xpersonsshape.2), .own2 abooks, .any, .own v_order, .any, .any, .any, .any, .any, .any, .any]) (i_rng2 (pi_range2 rfl T.n_range (a_cons e_int (a_cons (e_var 3) a_nil)))) (pg_name (i := 8) SC.nd rfl (by first | exact Or.inl rfl | exact Or.inr rfl)) (tg1 8) (fun xat abooks =>
 (s_if (Γk := fun jbooks : List (List D) => [.thr, .pur v_most_persons, .pur v_most_cards, .pur (xpersonsshape.1), .pur (xpersonsshape.2), .own2 jbooks, .any, .own v_order, .pur xat, .any, .any, .any, .any, .any, .any]) (t_cmp op_gt p_cmp (e_var 4) e_int) (s_par 9 10 (a_cons (e_ixOwn 7 (pv 7) (e_var 8)) (a_cons (e_ixOwn 7 (pv 7) (cS 0 (ok__law_draw T) hr (by decide) (pv 0) (a_cons (e_var 8) a_nil))) a_nil)) (by decide) (fun xoneother =>
 (s_if (Γk := fun joneother : D × D => [.thr, .pur v_most_persons, .pur v_most_cards, .pur (xpersonsshape.1), .pur (xpersonsshape.2), .own2 abooks, .any, .own v_order, .pur xat, .pur (joneother.1), .pur (joneother.2), .any, .any, .any, .any]) (t_cmp (o_eq (Z := ⟨K, mg, TT⟩)) p_eq (cS 0 (ok__law_draw T) hr (by decide) (pv 0) (a_cons e_int a_nil)) e_int) (s_par 9 10 (a_cons (e_var 10) (a_cons (e_var 9) a_nil)) (by decide) (fun xoneother =>
 (s_nil (.same (.same (.same (.same (.same (.same (.same (.same (.same (.same (.same (.same (.same (.same (.same .nil)))))))))))))))))) (s_nil (.same (.same (.same (.same (.same (.same (.same (.same (.same (.same (.same (.same (.same (.same (.same .nil)))))))))))))))) (fun joneother =>
 (s_app2 5 rfl (pe_bm PySem.F.plainAttrs_list PySem.F.slot_list_append PySem.F.type_list_append mt_append (pe_ix (o_ix (Z := ⟨K, mg, TT⟩)) (pv 5) (e_var 9) (fun _ _ => rfl)) (pa_cons (e_var 10) pa_nil)) (fun v_books =>
 (s_nil (.same (.same (.same (.same (.same (.same (.same (.same (.same (.any (.any (.same (.same (.same (.same .nil)))))))))))))))))))))) (s_nil (.same (.same (.same (.same (.same (.same (.same (.same (.same (.same (.same (.same (.same (.same (.same .nil)))))))))))))))) (fun jbooks =>
 (s_nil (.same (.same (.same (.same (.same (.same (.same (.same (.any (.same (.same (.same (.same (.same (.same .nil))))))))))))))))))) (fun abooks =>
 (s_set 11 (e_bin (o_add (Z := ⟨K, mg, TT⟩)) p_add e_int (cS 0 (ok__law_draw T) hr (by decide) (pv 0) (a_cons (e_var 2) a_nil))) (fun v_few =>
 (s_for (Γl := fun abooks : List (List D) => [.thr, .pur v_most_persons, .pur v_most_cards, .pur (xpersonsshape.1), .pur (xpersonsshape.2), .own2 abooks, .any, .own v_order, .any, .any, .any, .pur v_few, .any, .any, .any]) (i_rng1 (pi_range1 rfl T.n_range (a_cons (e_var 3) a_nil))) (pg_name (i := 6) SC.nd rfl (by first | exact Or.inl rfl | exact Or.inr rfl)) (tg1 6) (fun xperson abooks =>
 (s_if (Γk := fun jbooks : List (List D) => [.thr, .pur v_most_persons, .pur v_most_cards, .pur (xpersonsshape.1), .pur (xpersonsshape.2), .own2 jbooks, .pur xperson, .own v_order, .any, .any, .any, .pur v_few, .any, .any, .any]) (PW.pt (w_or (t_cmp op_lt p_cmp (e_var 4) e_int) (w_or1 (t_cmp (o_eq (Z := ⟨K, mg, TT⟩)) p_eq (cS 0 (ok__law_draw T) hr (by decide) (pv 0) (a_cons e_int a_nil)) e_int)))) (s_for (Γl := fun abooks : List (List D) => [.thr, .pur v_most_persons, .pur v_most_cards, .pur (xpersonsshape.1), .pur (xpersonsshape.2), .own2 abooks, .pur xperson, .own v_order, .any, .any, .any, .pur v_few, .any, .any, .any]) (i_rng1 (pi_range1 rfl T.n_range (a_cons (cS 0 (ok__law_draw T) hr (by decide) (pv 0) (a_cons (e_bin (o_add (Z := ⟨K, mg, TT⟩)) p_add (e_var 11) e_int) a_nil)) a_nil))) (pg_name (i := 12) SC.nd rfl (by first | exact Or.inl rfl | exact Or.inr rfl)) (tg1 12) (fun xturn abooks =>
 (s_app2 5 rfl (pe_bm PySem.F.plainAttrs_list PySem.F.slot_list_append PySem.F.type_list_append mt_append (pe_ix (o_ix (Z := ⟨K, mg, TT⟩)) (pv 5) (e_var 6) (fun _ _ => rfl)) (pa_cons (cS 0 (ok__law_draw T) hr (by decide) (pv 0) (a_cons (e_var 3) a_nil)) pa_nil)) (fun v_books =>
 (s_nil (.same (.same (.same (.same (.same (.same (.same (.same (.same (.same (.same (.same (.any (.same (.same .nil))))))))))))))))))) (fun abooks =>
 (s_nil (.same (.same (.same (.same (.same (.same (.same (.same (.same (.same (.same (.same (.same (.same (.same .nil))))))))))))))))) (.same (.same (.same (.same (.same (.same (.same (.same (.same (.same (.same (.same (.same (.same (.same .nil)))))))))))))))) (s_nil (.same (.same (.same (.same (.same (.same (.same (.same (.same (.same (.same (.same (.same (.same (.same .nil)))))))))))))))) (fun jbooks =>
 (s_nil (.same (.same (.same (.same (.same (.same (.any (.same (.same (.same (.same (.same (.same (.same (.same .nil))))))))))))))))))) (fun abooks =>
 (s_if (Γk := fun jbooks : List (List D) => [.thr, .pur v_most_persons, .pur v_most_cards, .pur (xpersonsshape.1), .pur (xpersonsshape.2), .own2 jbooks, .any, .own v_order, .any, .any, .any, .pur v_few, .any, .any, .any]) (t_cmp (o_eq (Z := ⟨K, mg, TT⟩)) p_eq (cS 0 (ok__law_draw T) hr (by decide) (pv 0) (a_cons e_int a_nil)) e_int) (s_put2 5 rfl (l_lst a_nil) (pg_sub (pv 5) (cS 0 (ok__law_draw T) hr (by decide) (pv 0) (a_cons (e_var 3) a_nil)) set_list) (fun v_books =>
 (s_nil (.same (.same (.same (.same (.same (.same (.same (.same (.same (.same (.same (.same (.same (.same (.same .nil)))))))))))))))))) (s_nil (.same (.same (.same (.same (.same (.same (.same (.same (.same (.same (.same (.same (.same (.same (.same .nil)))))))))))))))) (fun jbooks =>
 (s_set 13 (e_rng1 (pe_tupRg rfl rfl T.n_tuple (prg_1 rfl T.n_range (e_var 3)))) (fun v_players =>
 (s_if (Γk := fun jplayers : D => [.thr, .pur v_most_persons, .pur v_most_cards, .pur (xpersonsshape.1), .pur (xpersonsshape.2), .own2 jbooks, .any, .own v_order, .any, .any, .any, .pur v_few, .any, .pur jplayers, .any]) (t_cmp (o_eq (Z := ⟨K, mg, TT⟩)) p_eq (cS 0 (ok__law_draw T) hr (by decide) (pv 0) (a_cons e_int a_nil)) e_int) (s_set 13 (cS 0 (ok__law_some T) hr (by decide) (pv 0) (a_cons (e_ofL (l_callTy (c_list (Z := ⟨K, mg, TT⟩)) p_list T.n_list hv_list (a_cons (e_var 13) a_nil))) (a_cons e_int a_nil))) (fun v_players =>
 (s_nil (.same (.same (.same (.same (.same (.same (.same (.same (.same (.same (.same (.same (.same (.same (.same .nil)))))))))))))))))) (s_nil (.same (.same (.same (.same (.same (.same (.same (.same (.same (.same (.same (.same (.same (.same (.same .nil)))))))))))))))) (fun jplayers =>
 (s_freeze2 5 rfl (s_retL (l_lst (a_cons (e_callTy (c_tuple (Z := ⟨K, mg, TT⟩)) p_tuple T.n_tuple hv_tuple (a_cons (e_ofL (l_comp (own := [("book", 14)]) (i_seq (Z := ⟨K, mg, TT⟩) (e_var 5)) (blkOk_by (by with_unfolding_all rfl)) (fun _ _ _ _ _ => (pg_name (i := 14) SC.nd rfl (by first | exact Or.inl rfl | exact Or.inr rfl))) (tg1 14) (fun _ _ _ _ _ xbook => ts_nil (m := yes)) (fun _ _ _ _ _ xbook => (e_callTy (c_tuple (Z := ⟨K, mg, TT⟩)) p_tuple T.n_tuple hv_tuple (a_cons (e_ofL (l_callB (c_sorted (Z := ⟨K, mg, TT⟩)) p_sorted T.n_sorted hv_sorted (a_cons (e_ofL (l_slice (e_var 14) o_none (o_some (e_var 2)))) a_nil))) a_nil))))) a_nil)) (a_cons (e_var 13) a_nil)))))))))))) (.same (.same (.same (.same (.same (.same (.same (.same (.same (.same (.same (.same (.same (.same (.same .nil))))))))))))))))))) (.same (.same (.same (.same (.same (.same (.same (.same (.same (.same (.same (.same (.same (.same (.same .nil))))))))))))))))))))))
def B__law_drawn_turns (v_hall v_players v_many : D) : M (Out Unit Unit) :=
 (M.bind (mBL dLst (M.pure [])) fun v_rows => (mForB (α := List D × D) (mBL dRng1 (mCons (M.pure v_many) (M.pure []))) some (fun xturn arowshall =>
 (M.bind (mCompB (mSeq (M.pure v_players)) some (fun xone => (mBB dAny (mCons (mOfL (mCompB (mSeq (mBin dItem (M.pure arowshall.2) (M.pure xone))) some yes (fun xcard => (mOfB (mAnd (mCmp dIn (M.pure xcard) (M.pure v_players)) (mCmp dNe (M.pure xcard) (M.pure xone))))))) (M.pure [])))) (fun xone => (M.pure xone))) fun v_some => (mIfj (δ := List D × D) (mCmp dGt (mB dLen (mCons (M.pure (.list v_some)) (M.pure []))) (M.pure (.int 0))) (M.bind (callS 1 M__law_any (mCons (M.pure (.list v_some)) (M.pure []))) fun v_u => (M.bind (callS 1 M__law_any (mCons (mOfL (mCompB (mSeq (mBin dItem (M.pure arowshall.2) (M.pure v_u))) some (fun xcard => (mAnd (mCmp dIn (M.pure xcard) (M.pure v_players)) (mCmp dNe (M.pure xcard) (M.pure v_u)))) (fun xcard => (M.pure xcard)))) (M.pure []))) fun v_v => (mIfj (δ := List D × D) (mCmp dGt (mB dLen (mCons (mBin dItem (M.pure arowshall.2) (M.pure v_v)) (M.pure []))) (M.pure (.int 0))) (mApp arowshall.1 (mB dTup (mCons (M.pure v_u) (mCons (M.pure v_v) (mCons (callS 1 M__law_any (mCons (mBin dItem (M.pure arowshall.2) (M.pure v_v)) (M.pure []))) (M.pure []))))) (fun v_rows => (M.bind (callP 2 M__law_done (mCons (M.pure arowshall.2) (mCons (M.bind (M.bind (M.pure (.int 1)) fun x => M.opt (dNeg x)) fun j => M.opt (dItem (.list v_rows) j)) (M.pure [])))) fun v_hall => (M.pure (.nx (v_rows, v_hall)))))) (M.pure (.nx (arowshall.1, arowshall.2))) (fun jrowshall =>
 (M.pure (.nx (jrowshall.1, jrowshall.2))))))) (M.pure (.nx (arowshall.1, arowshall.2))) (fun jrowshall =>
 (M.pure (.nx (jrowshall.1, jrowshall.2))))))) (v_rows, v_hall) (fun arowshall =>
 (mRet (mB dTup (mCons (M.pure (.list arowshall.1)) (mCons (M.pure arowshall.2) (M.pure []))))))))
def W__law_drawn_turns (ds : List D) : M (Out Unit Unit) := match ds with
  | [v_hall, v_players, v_many] => B__law_drawn_turns v_hall v_players v_many
  | _ => M.stuck
def M__law_drawn_turns (ds : List D) : M D := retD (W__law_drawn_turns ds)
theorem SC__law_drawn_turns : FnScope ["hand", "hall", "players", "many", "rows", "turn", "some", "one", "card", "u", "v"] ["hand", "hall", "players", "many"] (defScope (top 42)) := ⟨rfl, rfl, rfl, by decide +kernel, rfl, by decide +kernel, by decide +kernel⟩
theorem ok__law_drawn_turns (T : Txt P w K mg base TT) : CallF P w K mg base "_law_drawn_turns" 3 (spS ⟨K, mg, TT⟩ 3 M__law_drawn_turns) := by
  obtain ⟨f, fd, F, hm⟩ := T.d__law_drawn_turns
  have SC := SC__law_drawn_turns
  refine ⟨f, fd, ["hand", "hall", "players", "many"], fun_S (γ := Unit) (α := Unit) (Γm := fun _ => [.any, .any, .any, .any, .any, .any, .any, .any, .any, .any, .any]) (Γn := fun _ => []) (mb := W__law_drawn_turns) (k := 2) F SC rfl fun ds cdv A outer s H E hl hr ck ek => ?_, hm, F.kp, F.bindsN fun _ _ _ _ _ _ us hl => match us, hl with | [_, _, _, _], _ => rfl⟩
  match ds, hl with
  | [v_hall, v_players, v_many], _ =>
  show PSs _ _ (rdS ⟨K, mg, TT⟩ XF [.thr, .pur v_hall, .pur v_players, .pur v_many, .any, .any, .any, .any, .any, .any, .any] _ _ (B__law_drawn_turns v_hall v_players v_many))
  exact
 (s_setL 4 (l_lst a_nil) (fun v_rows =>
 (s_for (Γl := fun arowshall : List D × D => [.thr, .pur (arowshall.2), .pur v_players, .pur v_many, .own (arowshall.1), .any, .any, .any, .any, .any, .any]) (i_rng1 (pi_range1 rfl T.n_range (a_cons (e_var 3) a_nil))) (pg_name (i := 5) SC.nd rfl (by first | exact Or.inl rfl | exact Or.inr rfl)) (tg1 5) (fun xturn arowshall =>
 (s_setC 6 (own := [("one", 7)]) (i_seq (Z := ⟨K, mg, TT⟩) (e_var 2)) (blkOk_by (by with_unfolding_all rfl)) (fun _ _ _ _ _ => (pg_name (i := 7) SC.nd rfl (by first | exact Or.inl rfl | exact Or.inr rfl))) (tg1 7) (fun _ _ _ _ _ xone => ts_one (t_val (b_callB (c_any (Z := ⟨K, mg, TT⟩)) p_any T.n_any hv_any (a_cons (e_ofL (l_comp (own := [("card", 8)]) (i_seq (Z := ⟨K, mg, TT⟩) (e_ix (o_ix (Z := ⟨K, mg, TT⟩)) p_ix (e_var 1) (e_var 7))) (blkOk_by (by with_unfolding_all rfl)) (fun _ _ _ _ _ => (pg_name (i := 8) SC.nd rfl (by first | exact Or.inl rfl | exact Or.inr rfl))) (tg1 8) (fun _ _ _ _ _ xcard => ts_nil (m := yes)) (fun _ _ _ _ _ xcard => (e_ofB (b_and (b_cmp (o_in (Z := ⟨K, mg, TT⟩)) p_in (e_var 8) (e_var 2)) (b_one (b_cmp (o_ne (Z := ⟨K, mg, TT⟩)) p_ne (e_var 8) (e_var 7)))))))) a_nil)))) (fun _ _ _ _ _ xone => (e_var 7)) (fun v_some =>
 (s_freeze 6 rfl (s_if (Γk := fun jrowshall : List D × D => [.thr, .pur (jrowshall.2), .pur v_players, .pur v_many, .own (jrowshall.1), .pur xturn, .pur ((.list v_some)), .any, .any, .any, .any]) (t_cmp op_gt p_cmp (e_callB (c_len (Z := ⟨K, mg, TT⟩)) p_len T.n_len hv_len (a_cons (e_var 6) a_nil)) e_int) (s_set 9 (cS 0 (ok__law_any T) hr (by decide) (pv 0) (a_cons (e_var 6) a_nil)) (fun v_u =>
 (s_set 10 (cS 0 (ok__law_any T) hr (by decide) (pv 0) (a_cons (e_ofL (l_comp (own := [("card", 8)]) (i_seq (Z := ⟨K, mg, TT⟩) (e_ix (o_ix (Z := ⟨K, mg, TT⟩)) p_ix (e_var 1) (e_var 9))) (blkOk_by (by with_unfolding_all rfl)) (fun _ _ _ _ _ => (pg_name (i := 8) SC.nd rfl (by first | exact Or.inl rfl | exact Or.inr rfl))) (tg1 8) (fun _ _ _ _ _ xcard => ts_one (PW.pt (w_and (t_cmp (o_in (Z := ⟨K, mg, TT⟩)) p_in (e_var 8) (e_var 2)) (w_and1 (t_cmp (o_ne (Z := ⟨K, mg, TT⟩)) p_ne (e_var 8) (e_var 9)))))) (fun _ _ _ _ _ xcard => (e_var 8)))) a_nil)) (fun v_v =>
 (s_if (Γk := fun jrowshall : List D × D => [.thr, .pur (jrowshall.2), .pur v_players, .pur v_many, .own (jrowshall.1), .pur xturn, .pur ((.list v_some)), .any, .any, .pur v_u, .pur v_v]) (t_cmp op_gt p_cmp (e_callB (c_len (Z := ⟨K, mg, TT⟩)) p_len T.n_len hv_len (a_cons (e_ix (o_ix (Z := ⟨K, mg, TT⟩)) p_ix (e_var 1) (e_var 10)) a_nil)) e_int) (s_append 4 rfl (pe_bm PySem.F.plainAttrs_list PySem.F.slot_list_append PySem.F.type_list_append mt_append (pv 4) (pa_cons (e_tup (a_cons (e_var 9) (a_cons (e_var 10) (a_cons (cS 0 (ok__law_any T) hr (by decide) (pv 0) (a_cons (e_ix (o_ix (Z := ⟨K, mg, TT⟩)) p_ix (e_var 1) (e_var 10)) a_nil)) a_nil)))) pa_nil)) (fun v_rows =>
 (s_set 1 (cP (ok__law_done T) hr (by decide) (a_cons (e_var 1) (a_cons (e_ixOwn 4 (pv 4) (e_un un_neg p_neg e_int)) a_nil))) (fun v_hall =>
 (s_nil (.same (.same (.same (.same (.same (.same (.same (.same (.same (.same (.same .nil)))))))))))))))) (s_nil (.same (.same (.same (.same (.same (.same (.same (.same (.same (.same (.same .nil)))))))))))) (fun jrowshall =>
 (s_nil (.same (.same (.same (.same (.same (.same (.same (.same (.same (.any (.any .nil)))))))))))))))))) (s_nil (.same (.same (.same (.same (.same (.same (.same (.same (.same (.same (.same .nil)))))))))))) (fun jrowshall =>
 (s_nil (.same (.same (.same (.same (.same (.any (.any (.same (.same (.same (.same .nil)))))))))))))))))) (fun arowshall =>
 (s_freeze 4 rfl (s_ret (e_tup (a_cons (e_var 4) (a_cons (e_var 1) a_nil)))))) (.same (.same (.same (.same (.same (.same (.same (.same (.same (.same (.same .nil))))))))))))))
def B__law_bent_rows (v_rows v_persons : D) : M (Out Unit Unit) :=
 (M.bind (callS 1 M__law_draw (mCons (mBin dAdd (mB dLen (mCons (M.pure v_rows) (M.pure []))) (M.pure (.int 1))) (M.pure []))) fun v_at => (M.bind (mB dTuple (mCons (mOfL (mCompB (mBL dRng1 (mCons (M.pure (.int 3)) (M.pure []))) some yes (fun xturn => (callS 1 M__law_draw (mCons (M.pure v_persons) (M.pure [])))))) (M.pure []))) fun v_one => (M.bind (callS 1 M__law_any (mCons (mOfL (mBL dLst (mCons (M.pure .none) (mCons (mOfL (mBL dListOf (mCons (M.pure v_one) (M.pure [])))) (mCons (mSl (M.pure v_one) (M.pure none) (mEnd (M.pure (.int 2)))) (mCons (mBin dAdd (M.pure v_one) (mB dTup (mCons (M.pure (.int 0)) (M.pure [])))) (mCons (mB dTup (mCons (M.pure (.int 0)) (mCons (M.pure (.int 1)) (mCons (mOfB (M.pure true)) (M.pure []))))) (mCons (mB dTup (mCons (M.pure (.int 0)) (mCons (M.pure (.str "1")) (mCons (M.pure (.int 0)) (M.pure []))))) (mCons (mB dTup (mCons (M.pure v_persons) (mCons (M.pure (.int 0)) (mCons (M.pure (.int 0)) (M.pure []))))) (mCons (M.pure v_one) (mCons (M.pure v_one) (mCons (M.pure v_one) (M.pure []))))))))))))) (M.pure []))) fun v_odd => (M.bind (mBL dLst (mCons (mOfL (mBinL dAddL (mOfL (mBinL dAddL (mOfL (mSlL (M.pure v_rows) (M.pure none) (mEnd (M.pure v_at)))) (mOfL (mBL dLst (mCons (M.pure v_odd) (M.pure [])))))) (mOfL (mSlL (M.pure v_rows) (mEnd (M.pure v_at)) (M.pure none))))) (mCons (mOfL (mBinL dAddL (mOfL (mSlL (M.pure v_rows) (M.pure none) (mEnd (M.pure v_at)))) (mOfL (mBL dLst (mCons (M.pure v_odd) (M.pure [])))))) (mCons (mOfL (mBinL dAddL (mOfL (mSlL (M.pure v_rows) (M.pure none) (mEnd (M.pure v_at)))) (mOfL (mSlL (M.pure v_rows) (mEnd (mBin dAdd (M.pure v_at) (M.pure (.int 1)))) (M.pure none))))) (mCons (mOfL (mRevL (M.pure v_rows))) (mCons (mOfL (mBinL dAddL (M.pure v_rows) (mOfL (mSlL (M.pure v_rows) (mEnd (M.bind (M.pure (.int 1)) fun x => M.opt (dNeg x))) (M.pure none))))) (M.pure []))))))) fun v_some => (mRet (callS 1 M__law_any (mCons (mOfL (mBinL dAddL (mOfL (mBinL dAddL (M.pure (.list v_some)) (M.pure (.list v_some)))) (mOfL (mBL dLst (mCons (mB dTuple (mCons (M.pure v_rows) (M.pure []))) (mCons (M.pure .none) (mCons (M.pure v_odd) (mCons (M.pure (.dict [])) (mCons (callS 0 M__law_odd (M.pure [])) (M.pure [])))))))))) (M.pure []))))))))
def W__law_bent_rows (ds : List D) : M (Out Unit Unit) := match ds with
  | [v_rows, v_persons] => B__law_bent_rows v_rows v_persons
  | _ => M.stuck
def M__law_bent_rows (ds : List D) : M D := retD (W__law_bent_rows ds)
theorem SC__law_bent_rows : FnScope ["hand", "rows", "persons", "at", "one", "turn", "odd", "some"] ["hand", "rows", "persons"] (defScope (top 47)) := ⟨rfl, rfl, rfl, by decide +kernel, rfl, by decide +kernel, by decide +kernel⟩
theorem ok__law_bent_rows (T : Txt P w K mg base TT) : CallF P w K mg base "_law_bent_rows" 4 (spS ⟨K, mg, TT⟩ 2 M__law_bent_rows) := by
  obtain ⟨f, fd, F, hm⟩ := T.d__law_bent_rows
  have SC := SC__law_bent_rows
  refine ⟨f, fd, ["hand", "rows", "persons"], fun_S (γ := Unit) (α := Unit) (Γm := fun _ => [.any, .any, .any, .any, .any, .any, .any, .any]) (Γn := fun _ => []) (mb := W__law_bent_rows) (k := 3) F SC rfl fun ds cdv A outer s H E hl hr ck ek => ?_, hm, F.kp, F.bindsN fun _ _ _ _ _ _ us hl => match us, hl with | [_, _, _], _ => rfl⟩
  match ds, hl with
  | [v_rows, v_persons], _ =>
  show PSs _ _ (rdS ⟨K, mg, TT⟩ XF [.thr, .pur v_rows, .pur v_persons, .any, .any, .any, .any, .any] _ _ (B__law_bent_rows v_rows v_persons))
  exact
 (s_set 3 (cS 0 (ok__law_draw T) hr (by decide) (pv 0) (a_cons (e_bin (o_add (Z := ⟨K, mg, TT⟩)) p_add (e_callB (c_len (Z := ⟨K, mg, TT⟩)) p_len T.n_len hv_len (a_cons (e_var 1) a_nil)) e_int) a_nil)) (fun v_at =>
 (s_set 4 (e_callTy (c_tuple (Z := ⟨K, mg, TT⟩)) p_tuple T.n_tuple hv_tuple (a_cons (e_ofL (l_comp (own := [("turn", 5)]) (i_rng1 (pi_range1 rfl T.n_range (a_cons e_int a_nil))) (blkOk_by (by with_unfolding_all rfl)) (fun _ _ _ _ _ => (pg_name (i := 5) SC.nd rfl (by first | exact Or.inl rfl | exact Or.inr rfl))) (tg1 5) (fun _ _ _ _ _ xturn => ts_nil (m := yes)) (fun _ _ _ _ _ xturn => (cS 0 (ok__law_draw T) hr (by decide) (pv 0) (a_cons (e_var 2) a_nil))))) a_nil)) (fun v_one =>
 (s_set 6 (cS 0 (ok__law_any T) hr (by decide) (pv 0) (a_cons (e_ofL (l_lst (a_cons e_non (a_cons (e_ofL (l_callTy (c_list (Z := ⟨K, mg, TT⟩)) p_list T.n_list hv_list (a_cons (e_var 4) a_nil))) (a_cons (e_slice (e_var 4) o_none (o_some e_int)) (a_cons (e_bin (o_add (Z := ⟨K, mg, TT⟩)) p_add (e_var 4) (e_tup (a_cons e_int a_nil))) (a_cons (e_tup (a_cons e_int (a_cons e_int (a_cons (e_ofB b_bool) a_nil)))) (a_cons (e_tup (a_cons e_int (a_cons e_str (a_cons e_int a_nil)))) (a_cons (e_tup (a_cons (e_var 2) (a_cons e_int (a_cons e_int a_nil)))) (a_cons (e_var 4) (a_cons (e_var 4) (a_cons (e_var 4) a_nil)))))))))))) a_nil)) (fun v_odd =>
 (s_setL 7 (l_lst (a_cons (e_ofL (l_bin op_cat p_addL (e_ofL (l_bin op_cat p_addL (e_ofL (l_slice (e_var 1) o_none (o_some (e_var 3)))) (e_ofL (l_lst (a_cons (e_var 6) a_nil))))) (e_ofL (l_slice (e_var 1) (o_some (e_var 3)) o_none)))) (a_cons (e_ofL (l_bin op_cat p_addL (e_ofL (l_slice (e_var 1) o_none (o_some (e_var 3)))) (e_ofL (l_lst (a_cons (e_var 6) a_nil))))) (a_cons (e_ofL (l_bin op_cat p_addL (e_ofL (l_slice (e_var 1) o_none (o_some (e_var 3)))) (e_ofL (l_slice (e_var 1) (o_some (e_bin (o_add (Z := ⟨K, mg, TT⟩)) p_add (e_var 3) e_int)) o_none)))) (a_cons (e_ofL (l_rev (e_var 1))) (a_cons (e_ofL (l_bin op_cat p_addL (e_var 1) (e_ofL (l_slice (e_var 1) (o_some (e_un un_neg p_neg e_int)) o_none)))) a_nil)))))) (fun v_some =>
 (s_freeze 7 rfl (s_ret (cS 0 (ok__law_any T) hr (by decide) (pv 0) (a_cons (e_ofL (l_bin op_cat p_addL (e_ofL (l_bin op_cat p_addL (e_var 7) (e_var 7))) (e_ofL (l_lst (a_cons (e_callTy (c_tuple (Z := ⟨K, mg, TT⟩)) p_tuple T.n_tuple hv_tuple (a_cons (e_var 1) a_nil)) (a_cons e_non (a_cons (e_var 6) (a_cons e_dict0 (a_cons (cS 0 (ok__law_odd T) hr (by decide) (pv 0) a_nil) a_nil))))))))) a_nil))))))))))))
def B__law_same_0 (v_one v_due : D) : M (Out Unit Unit) :=
 (mIfx (mIsI2 .tuple .list (M.pure v_due)) (mIfx (mOr (mCmp dNe (mOfB (mIsI .tuple (M.pure v_one))) (mOfB (mIsI .tuple (M.pure v_due)))) (mNot (mIsI2 .tuple .list (M.pure v_one)))) (mRet (mOfB (M.pure false)))
 (mRet (mOfB (mAnd (mCmp dEq (mB dLen (mCons (M.pure v_one) (M.pure []))) (mB dLen (mCons (M.pure v_due) (M.pure [])))) (mBB dAll (mCons (mOfL (mCompB (mBL dZip (mCons (M.pure v_one) (mCons (M.pure v_due) (M.pure [])))) bnd2 yes (fun xtwoother => (M.stuck)))) (M.pure [])))))))
 (mIfx (mOr (mIsI .bool (M.pure v_due)) (mOr (mIsI .bool (M.pure v_one)) (mOr (M.bind (M.pure v_due) fun x => M.pure (dIsN x)) (M.bind (M.pure v_one) fun x => M.pure (dIsN x))))) (mRet (mOfB (mAnd (mCmp dEq (mOfB (mIsI .bool (M.pure v_one))) (mOfB (mIsI .bool (M.pure v_due)))) (mAnd (mCmp dEq (mOfB (M.bind (M.pure v_one) fun x => M.pure (dIsN x))) (mOfB (M.bind (M.pure v_due) fun x => M.pure (dIsN x)))) (mCmp dEq (M.pure v_one) (M.pure v_due))))))
 (mRet (mOfB (mAnd (mCmp dEq (mOfB (mIsI .str (M.pure v_one))) (mOfB (mIsI .str (M.pure v_due)))) (mAnd (mIsI2 .int .str (M.pure v_one)) (mCmp dEq (M.pure v_one) (M.pure v_due))))))))
def W__law_same_0 (ds : List D) : M (Out Unit Unit) := match ds with
  | [v_one, v_due] => B__law_same_0 v_one v_due
  | _ => M.stuck
def M__law_same_0 (ds : List D) : M D := retD (W__law_same_0 ds)
theorem SC__law_same : FnScope ["one", "due", "two", "other"] ["one", "due"] (defScope (top 37)) := ⟨rfl, rfl, rfl, by decide +kernel, rfl, by decide +kernel, by decide +kernel⟩
theorem ok__law_same_0 (T : Txt P w K mg base TT) : CallF P w K mg base "_law_same" 1 (spP ⟨K, mg, TT⟩ 2 M__law_same_0) := by
  obtain ⟨f, fd, F, hm⟩ := T.d__law_same
  have SC := SC__law_same
  refine ⟨f, fd, ["one", "due"], fun_P (γ := Unit) (α := Unit) (Γm := fun _ => [.any, .any, .any, .any]) (Γn := fun _ => []) (mb := W__law_same_0) (k := 0) F SC rfl fun ds cdv A outer s H E hl hr ck => ?_, hm, F.kp, F.bindsN fun _ _ _ _ _ _ us hl => match us, hl with | [_, _], _ => rfl⟩
  match ds, hl with
  | [v_one, v_due], _ =>
  show PSs _ _ (rdS ⟨K, mg, TT⟩ E [.pur v_one, .pur v_due, .any, .any] _ _ (B__law_same_0 v_one v_due))
  exact
 (s_ifx (Γk := fun _ => []) (t_val (b_isi2 .tuple .list (e_var 1) T.n_isinstance T.n_tuple T.n_list)) (s_ifx (Γk := fun _ => []) (PW.pt (w_or (t_cmp (o_ne (Z := ⟨K, mg, TT⟩)) p_ne (e_ofB (b_isi .tuple (e_var 0) T.n_isinstance T.n_tuple)) (e_ofB (b_isi .tuple (e_var 1) T.n_isinstance T.n_tuple))) (w_or1 (t_not (t_val (b_isi2 .tuple .list (e_var 0) T.n_isinstance T.n_tuple T.n_list)))))) (s_ret (e_ofB b_bool))
 (s_ret (e_ofB (b_and (b_cmp (o_eq (Z := ⟨K, mg, TT⟩)) p_eq (e_callB (c_len (Z := ⟨K, mg, TT⟩)) p_len T.n_len hv_len (a_cons (e_var 0) a_nil)) (e_callB (c_len (Z := ⟨K, mg, TT⟩)) p_len T.n_len hv_len (a_cons (e_var 1) a_nil))) (b_one (b_callB (c_all (Z := ⟨K, mg, TT⟩)) p_all T.n_all hv_all (a_cons (e_ofL (l_comp (own := [("two", 2), ("other", 3)]) (i_zip (Z := ⟨K, mg, TT⟩) (RZ.pi_zipA rfl T.n_zip (a_cons (e_var 0) (a_cons (e_var 1) a_nil)))) (blkOk_by (by with_unfolding_all rfl)) (fun _ _ _ _ _ => (pg_tup rfl (pgs_cons (pg_name (i := 2) SC.nd rfl (by first | exact Or.inl rfl | exact Or.inr rfl)) (pgs_cons (pg_name (i := 3) SC.nd rfl (by first | exact Or.inl rfl | exact Or.inr rfl)) pgs_nil)))) (tg2 2 3) (fun _ _ _ _ _ xtwoother => ts_nil (m := yes)) (fun _ _ _ _ _ xtwoother => e_stuck))) a_nil)))))))
 (s_ifx (Γk := fun _ => []) (PW.pt (w_or (t_val (b_isi .bool (e_var 1) T.n_isinstance T.n_bool)) (w_or (t_val (b_isi .bool (e_var 0) T.n_isinstance T.n_bool)) (w_or (t_isN (e_var 1)) (w_or1 (t_isN (e_var 0))))))) (s_ret (e_ofB (b_and (b_cmp (o_eq (Z := ⟨K, mg, TT⟩)) p_eq (e_ofB (b_isi .bool (e_var 0) T.n_isinstance T.n_bool)) (e_ofB (b_isi .bool (e_var 1) T.n_isinstance T.n_bool))) (b_and (b_cmp (o_eq (Z := ⟨K, mg, TT⟩)) p_eq (e_ofB (b_isN (e_var 0))) (e_ofB (b_isN (e_var 1)))) (b_one (b_cmp (o_eq (Z := ⟨K, mg, TT⟩)) p_eq (e_var 0) (e_var 1)))))))
 (s_ret (e_ofB (b_and (b_cmp (o_eq (Z := ⟨K, mg, TT⟩)) p_eq (e_ofB (b_isi .str (e_var 0) T.n_isinstance T.n_str)) (e_ofB (b_isi .str (e_var 1) T.n_isinstance T.n_str))) (b_and (b_isi2 .int .str (e_var 0) T.n_isinstance T.n_int T.n_str) (b_one (b_cmp (o_eq (Z := ⟨K, mg, TT⟩)) p_eq (e_var 0) (e_var 1)))))))))
def B__law_same_1 (v_one v_due : D) : M (Out Unit Unit) :=
 (mIfx (mIsI2 .tuple .list (M.pure v_due)) (mIfx (mOr (mCmp dNe (mOfB (mIsI .tuple (M.pure v_one))) (mOfB (mIsI .tuple (M.pure v_due)))) (mNot (mIsI2 .tuple .list (M.pure v_one)))) (mRet (mOfB (M.pure false)))
 (mRet (mOfB (mAnd (mCmp dEq (mB dLen (mCons (M.pure v_one) (M.pure []))) (mB dLen (mCons (M.pure v_due) (M.pure [])))) (mBB dAll (mCons (mOfL (mCompB (mBL dZip (mCons (M.pure v_one) (mCons (M.pure v_due) (M.pure [])))) bnd2 yes (fun xtwoother => (callP 2 M__law_same_0 (mCons (M.pure xtwoother.1) (mCons (M.pure xtwoother.2) (M.pure []))))))) (M.pure [])))))))
 (mIfx (mOr (mIsI .bool (M.pure v_due)) (mOr (mIsI .bool (M.pure v_one)) (mOr (M.bind (M.pure v_due) fun x => M.pure (dIsN x)) (M.bind (M.pure v_one) fun x => M.pure (dIsN x))))) (mRet (mOfB (mAnd (mCmp dEq (mOfB (mIsI .bool (M.pure v_one))) (mOfB (mIsI .bool (M.pure v_due)))) (mAnd (mCmp dEq (mOfB (M.bind (M.pure v_one) fun x => M.pure (dIsN x))) (mOfB (M.bind (M.pure v_due) fun x => M.pure (dIsN x)))) (mCmp dEq (M.pure v_one) (M.pure v_due))))))
 (mRet (mOfB (mAnd (mCmp dEq (mOfB (mIsI .str (M.pure v_one))) (mOfB (mIsI .str (M.pure v_due)))) (mAnd (mIsI2 .int .str (M.pure v_one)) (mCmp dEq (M.pure v_one) (M.pure v_due))))))))
def W__law_same_1 (ds : List D) : M (Out Unit Unit) := match ds with
  | [v_one, v_due] => B__law_same_1 v_one v_due
  | _ => M.stuck
def M__law_same_1 (ds : List D) : M D := retD (W__law_same_1 ds)
theorem ok__law_same_1 (T : Txt P w K mg base TT) : CallF P w K mg base "_law_same" 2 (spP ⟨K, mg, TT⟩ 2 M__law_same_1) := by
  obtain ⟨f, fd, F, hm⟩ := T.d__law_same
  have SC := SC__law_same
  refine ⟨f, fd, ["one", "due"], fun_P (γ := Unit) (α := Unit) (Γm := fun _ => [.any, .any, .any, .any]) (Γn := fun _ => []) (mb := W__law_same_1) (k := 1) F SC rfl fun ds cdv A outer s H E hl hr ck => ?_, hm, F.kp, F.bindsN fun _ _ _ _ _ _ us hl => match us, hl with | [_, _], _ => rfl⟩
  match ds, hl with
  | [v_one, v_due], _ =>
  show PSs _ _ (rdS ⟨K, mg, TT⟩ E [.pur v_one, .pur v_due, .any, .any] _ _ (B__law_same_1 v_one v_due))
  exact
 (s_ifx (Γk := fun _ => []) (t_val (b_isi2 .tuple .list (e_var 1) T.n_isinstance T.n_tuple T.n_list)) (s_ifx (Γk := fun _ => []) (PW.pt (w_or (t_cmp (o_ne (Z := ⟨K, mg, TT⟩)) p_ne (e_ofB (b_isi .tuple (e_var 0) T.n_isinstance T.n_tuple)) (e_ofB (b_isi .tuple (e_var 1) T.n_isinstance T.n_tuple))) (w_or1 (t_not (t_val (b_isi2 .tuple .list (e_var 0) T.n_isinstance T.n_tuple T.n_list)))))) (s_ret (e_ofB b_bool))
 (s_ret (e_ofB (b_and (b_cmp (o_eq (Z := ⟨K, mg, TT⟩)) p_eq (e_callB (c_len (Z := ⟨K, mg, TT⟩)) p_len T.n_len hv_len (a_cons (e_var 0) a_nil)) (e_callB (c_len (Z := ⟨K, mg, TT⟩)) p_len T.n_len hv_len (a_cons (e_var 1) a_nil))) (b_one (b_callB (c_all (Z := ⟨K, mg, TT⟩)) p_all T.n_all hv_all (a_cons (e_ofL (l_comp (own := [("two", 2), ("other", 3)]) (i_zip (Z := ⟨K, mg, TT⟩) (RZ.pi_zipA rfl T.n_zip (a_cons (e_var 0) (a_cons (e_var 1) a_nil)))) (blkOk_by (by with_unfolding_all rfl)) (fun _ _ _ _ _ => (pg_tup rfl (pgs_cons (pg_name (i := 2) SC.nd rfl (by first | exact Or.inl rfl | exact Or.inr rfl)) (pgs_cons (pg_name (i := 3) SC.nd rfl (by first | exact Or.inl rfl | exact Or.inr rfl)) pgs_nil)))) (tg2 2 3) (fun _ _ _ _ _ xtwoother => ts_nil (m := yes)) (fun _ _ _ _ _ xtwoother => (cP (ok__law_same_0 T) hr (by decide) (a_cons (e_var 2) (a_cons (e_var 3) a_nil)))))) a_nil)))))))
 (s_ifx (Γk := fun _ => []) (PW.pt (w_or (t_val (b_isi .bool (e_var 1) T.n_isinstance T.n_bool)) (w_or (t_val (b_isi .bool (e_var 0) T.n_isinstance T.n_bool)) (w_or (t_isN (e_var 1)) (w_or1 (t_isN (e_var 0))))))) (s_ret (e_ofB (b_and (b_cmp (o_eq (Z := ⟨K, mg, TT⟩)) p_eq (e_ofB (b_isi .bool (e_var 0) T.n_isinstance T.n_bool)) (e_ofB (b_isi .bool (e_var 1) T.n_isinstance T.n_bool))) (b_and (b_cmp (o_eq (Z := ⟨K, mg, TT⟩)) p_eq (e_ofB (b_isN (e_var 0))) (e_ofB (b_isN (e_var 1)))) (b_one (b_cmp (o_eq (Z := ⟨K, mg, TT⟩)) p_eq (e_var 0) (e_var 1)))))))
 (s_ret (e_ofB (b_and (b_cmp (o_eq (Z := ⟨K, mg, TT⟩)) p_eq (e_ofB (b_isi .str (e_var 0) T.n_isinstance T.n_str)) (e_ofB (b_isi .str (e_var 1) T.n_isinstance T.n_str))) (b_and (b_isi2 .int .str (e_var 0) T.n_isinstance T.n_int T.n_str) (b_one (b_cmp (o_eq (Z := ⟨K, mg, TT⟩)) p_eq (e_var 0) (e_var 1)))))))))
def B__law_same_2 (v_one v_due : D) : M (Out Unit Unit) :=
 (mIfx (mIsI2 .tuple .list (M.pure v_due)) (mIfx (mOr (mCmp dNe (mOfB (mIsI .tuple (M.pure v_one))) (mOfB (mIsI .tuple (M.pure v_due)))) (mNot (mIsI2 .tuple .list (M.pure v_one)))) (mRet (mOfB (M.pure false)))
 (mRet (mOfB (mAnd (mCmp dEq (mB dLen (mCons (M.pure v_one) (M.pure []))) (mB dLen (mCons (M.pure v_due) (M.pure [])))) (mBB dAll (mCons (mOfL (mCompB (mBL dZip (mCons (M.pure v_one) (mCons (M.pure v_due) (M.pure [])))) bnd2 yes (fun xtwoother => (callP 2 M__law_same_1 (mCons (M.pure xtwoother.1) (mCons (M.pure xtwoother.2) (M.pure []))))))) (M.pure [])))))))
 (mIfx (mOr (mIsI .bool (M.pure v_due)) (mOr (mIsI .bool (M.pure v_one)) (mOr (M.bind (M.pure v_due) fun x => M.pure (dIsN x)) (M.bind (M.pure v_one) fun x => M.pure (dIsN x))))) (mRet (mOfB (mAnd (mCmp dEq (mOfB (mIsI .bool (M.pure v_one))) (mOfB (mIsI .bool (M.pure v_due)))) (mAnd (mCmp dEq (mOfB (M.bind (M.pure v_one) fun x => M.pure (dIsN x))) (mOfB (M.bind (M.pure v_due) fun x => M.pure (dIsN x)))) (mCmp dEq (M.pure v_one) (M.pure v_due))))))
 (mRet (mOfB (mAnd (mCmp dEq (mOfB (mIsI .str (M.pure v_one))) (mOfB (mIsI .str (M.pure v_due)))) (mAnd (mIsI2 .int .str (M.pure v_one)) (mCmp dEq (M.pure v_one) (M.pure v_due))))))))
def W__law_same_2 (ds : List D) : M (Out Unit Unit) := match ds with
  | [v_one, v_due] => B__law_same_2 v_one v_due
  | _ => M.stuck
def M__law_same_2 (ds : List D) : M D := retD (W__law_same_2 ds)
theorem ok__law_same_2 (T : Txt P w K mg base TT) : CallF P w K mg base "_law_same" 3 (spP ⟨K, mg, TT⟩ 2 M__law_same_2) := by
  obtain ⟨f, fd, F, hm⟩ := T.d__law_same
  have SC := SC__law_same
  refine ⟨f, fd, ["one", "due"], fun_P (γ := Unit) (α := Unit) (Γm := fun _ => [.any, .any, .any, .any]) (Γn := fun _ => []) (mb := W__law_same_2) (k := 2) F SC rfl fun ds cdv A outer s H E hl hr ck => ?_, hm, F.kp, F.bindsN fun _ _ _ _ _ _ us hl => match us, hl with | [_, _], _ => rfl⟩
  match ds, hl with
  | [v_one, v_due], _ =>
  show PSs _ _ (rdS ⟨K, mg, TT⟩ E [.pur v_one, .pur v_due, .any, .any] _ _ (B__law_same_2 v_one v_due))
  exact
 (s_ifx (Γk := fun _ => []) (t_val (b_isi2 .tuple .list (e_var 1) T.n_isinstance T.n_tuple T.n_list)) (s_ifx (Γk := fun _ => []) (PW.pt (w_or (t_cmp (o_ne (Z := ⟨K, mg, TT⟩)) p_ne (e_ofB (b_isi .tuple (e_var 0) T.n_isinstance T.n_tuple)) (e_ofB (b_isi .tuple (e_var 1) T.n_isinstance T.n_tuple))) (w_or1 (t_not (t_val (b_isi2 .tuple .list (e_var 0) T.n_isinstance T.n_tuple T.n_list)))))) (s_ret (e_ofB b_bool))
 (s_ret (e_ofB (b_and (b_cmp (o_eq (Z := ⟨K, mg, TT⟩)) p_eq (e_callB (c_len (Z := ⟨K, mg, TT⟩)) p_len T.n_len hv_len (a_cons (e_var 0) a_nil)) (e_callB (c_len (Z := ⟨K, mg, TT⟩)) p_len T.n_len hv_len (a_cons (e_var 1) a_nil))) (b_one (b_callB (c_all (Z := ⟨K, mg, TT⟩)) p_all T.n_all hv_all (a_cons (e_ofL (l_comp (own := [("two", 2), ("other", 3)]) (i_zip (Z := ⟨K, mg, TT⟩) (RZ.pi_zipA rfl T.n_zip (a_cons (e_var 0) (a_cons (e_var 1) a_nil)))) (blkOk_by (by with_unfolding_all rfl)) (fun _ _ _ _ _ => (pg_tup rfl (pgs_cons (pg_name (i := 2) SC.nd rfl (by first | exact Or.inl rfl | exact Or.inr rfl)) (pgs_cons (pg_name (i := 3) SC.nd rfl (by first | exact Or.inl rfl | exact Or.inr rfl)) pgs_nil)))) (tg2 2 3) (fun _ _ _ _ _ xtwoother => ts_nil (m := yes)) (fun _ _ _ _ _ xtwoother => (cP (ok__law_same_1 T) hr (by decide) (a_cons (e_var 2) (a_cons (e_var 3) a_nil)))))) a_nil)))))))
 (s_ifx (Γk := fun _ => []) (PW.pt (w_or (t_val (b_isi .bool (e_var 1) T.n_isinstance T.n_bool)) (w_or (t_val (b_isi .bool (e_var 0) T.n_isinstance T.n_bool)) (w_or (t_isN (e_var 1)) (w_or1 (t_isN (e_var 0))))))) (s_ret (e_ofB (b_and (b_cmp (o_eq (Z := ⟨K, mg, TT⟩)) p_eq (e_ofB (b_isi .bool (e_var 0) T.n_isinstance T.n_bool)) (e_ofB (b_isi .bool (e_var 1) T.n_isinstance T.n_bool))) (b_and (b_cmp (o_eq (Z := ⟨K, mg, TT⟩)) p_eq (e_ofB (b_isN (e_var 0))) (e_ofB (b_isN (e_var 1)))) (b_one (b_cmp (o_eq (Z := ⟨K, mg, TT⟩)) p_eq (e_var 0) (e_var 1)))))))
 (s_ret (e_ofB (b_and (b_cmp (o_eq (Z := ⟨K, mg, TT⟩)) p_eq (e_ofB (b_isi .str (e_var 0) T.n_isinstance T.n_str)) (e_ofB (b_isi .str (e_var 1) T.n_isinstance T.n_str))) (b_and (b_isi2 .int .str (e_var 0) T.n_isinstance T.n_int T.n_str) (b_one (b_cmp (o_eq (Z := ⟨K, mg, TT⟩)) p_eq (e_var 0) (e_var 1)))))))))
def B__law_same_3 (v_one v_due : D) : M (Out Unit Unit) :=
 (mIfx (mIsI2 .tuple .list (M.pure v_due)) (mIfx (mOr (mCmp dNe (mOfB (mIsI .tuple (M.pure v_one))) (mOfB (mIsI .tuple (M.pure v_due)))) (mNot (mIsI2 .tuple .list (M.pure v_one)))) (mRet (mOfB (M.pure false)))
 (mRet (mOfB (mAnd (mCmp dEq (mB dLen (mCons (M.pure v_one) (M.pure []))) (mB dLen (mCons (M.pure v_due) (M.pure [])))) (mBB dAll (mCons (mOfL (mCompB (mBL dZip (mCons (M.pure v_one) (mCons (M.pure v_due) (M.pure [])))) bnd2 yes (fun xtwoother => (callP 2 M__law_same_2 (mCons (M.pure xtwoother.1) (mCons (M.pure xtwoother.2) (M.pure []))))))) (M.pure [])))))))
 (mIfx (mOr (mIsI .bool (M.pure v_due)) (mOr (mIsI .bool (M.pure v_one)) (mOr (M.bind (M.pure v_due) fun x => M.pure (dIsN x)) (M.bind (M.pure v_one) fun x => M.pure (dIsN x))))) (mRet (mOfB (mAnd (mCmp dEq (mOfB (mIsI .bool (M.pure v_one))) (mOfB (mIsI .bool (M.pure v_due)))) (mAnd (mCmp dEq (mOfB (M.bind (M.pure v_one) fun x => M.pure (dIsN x))) (mOfB (M.bind (M.pure v_due) fun x => M.pure (dIsN x)))) (mCmp dEq (M.pure v_one) (M.pure v_due))))))
 (mRet (mOfB (mAnd (mCmp dEq (mOfB (mIsI .str (M.pure v_one))) (mOfB (mIsI .str (M.pure v_due)))) (mAnd (mIsI2 .int .str (M.pure v_one)) (mCmp dEq (M.pure v_one) (M.pure v_due))))))))
def W__law_same_3 (ds : List D) : M (Out Unit Unit) := match ds with
  | [v_one, v_due] => B__law_same_3 v_one v_due
  | _ => M.stuck
def M__law_same_3 (ds : List D) : M D := retD (W__law_same_3 ds)
theorem ok__law_same_3 (T : Txt P w K mg base TT) : CallF P w K mg base "_law_same" 4 (spP ⟨K, mg, TT⟩ 2 M__law_same_3) := by
  obtain ⟨f, fd, F, hm⟩ := T.d__law_same
  have SC := SC__law_same
  refine ⟨f, fd, ["one", "due"], fun_P (γ := Unit) (α := Unit) (Γm := fun _ => [.any, .any, .any, .any]) (Γn := fun _ => []) (mb := W__law_same_3) (k := 3) F SC rfl fun ds cdv A outer s H E hl hr ck => ?_, hm, F.kp, F.bindsN fun _ _ _ _ _ _ us hl => match us, hl with | [_, _], _ => rfl⟩
  match ds, hl with
  | [v_one, v_due], _ =>
  show PSs _ _ (rdS ⟨K, mg, TT⟩ E [.pur v_one, .pur v_due, .any, .any] _ _ (B__law_same_3 v_one v_due))
  exact
 (s_ifx (Γk := fun _ => []) (t_val (b_isi2 .tuple .list (e_var 1) T.n_isinstance T.n_tuple T.n_list)) (s_ifx (Γk := fun _ => []) (PW.pt (w_or (t_cmp (o_ne (Z := ⟨K, mg, TT⟩)) p_ne (e_ofB (b_isi .tuple (e_var 0) T.n_isinstance T.n_tuple)) (e_ofB (b_isi .tuple (e_var 1) T.n_isinstance T.n_tuple))) (w_or1 (t_not (t_val (b_isi2 .tuple .list (e_var 0) T.n_isinstance T.n_tuple T.n_list)))))) (s_ret (e_ofB b_bool))
 (s_ret (e_ofB (b_and (b_cmp (o_eq (Z := ⟨K, mg, TT⟩)) p_eq (e_callB (c_len (Z := ⟨K, mg, TT⟩)) p_len T.n_len hv_len (a_cons (e_var 0) a_nil)) (e_callB (c_len (Z := ⟨K, mg, TT⟩)) p_len T.n_len hv_len (a_cons (e_var 1) a_nil))) (b_one (b_callB (c_all (Z := ⟨K, mg, TT⟩)) p_all T.n_all hv_all (a_cons (e_ofL (l_comp (own := [("two", 2), ("other", 3)]) (i_zip (Z := ⟨K, mg, TT⟩) (RZ.pi_zipA rfl T.n_zip (a_cons (e_var 0) (a_cons (e_var 1) a_nil)))) (blkOk_by (by with_unfolding_all rfl)) (fun _ _ _ _ _ => (pg_tup rfl (pgs_cons (pg_name (i := 2) SC.nd rfl (by first | exact Or.inl rfl | exact Or.inr rfl)) (pgs_cons (pg_name (i := 3) SC.nd rfl (by first | exact Or.inl rfl | exact Or.inr rfl)) pgs_nil)))) (tg2 2 3) (fun _ _ _ _ _ xtwoother => ts_nil (m := yes)) (fun _ _ _ _ _ xtwoother => (cP (ok__law_same_2 T) hr (by decide) (a_cons (e_var 2) (a_cons (e_var 3) a_nil)))))) a_nil)))))))
 (s_ifx (Γk := fun _ => []) (PW.pt (w_or (t_val (b_isi .bool (e_var 1) T.n_isinstance T.n_bool)) (w_or (t_val (b_isi .bool (e_var 0) T.n_isinstance T.n_bool)) (w_or (t_isN (e_var 1)) (w_or1 (t_isN (e_var 0))))))) (s_ret (e_ofB (b_and (b_cmp (o_eq (Z := ⟨K, mg, TT⟩)) p_eq (e_ofB (b_isi .bool (e_var 0) T.n_isinstance T.n_bool)) (e_ofB (b_isi .bool (e_var 1) T.n_isinstance T.n_bool))) (b_and (b_cmp (o_eq (Z := ⟨K, mg, TT⟩)) p_eq (e_ofB (b_isN (e_var 0))) (e_ofB (b_isN (e_var 1)))) (b_one (b_cmp (o_eq (Z := ⟨K, mg, TT⟩)) p_eq (e_var 0) (e_var 1)))))))
 (s_ret (e_ofB (b_and (b_cmp (o_eq (Z := ⟨K, mg, TT⟩)) p_eq (e_ofB (b_isi .str (e_var 0) T.n_isinstance T.n_str)) (e_ofB (b_isi .str (e_var 1) T.n_isinstance T.n_str))) (b_and (b_isi2 .int .str (e_var 0) T.n_isinstance T.n_int T.n_str) (b_one (b_cmp (o_eq (Z := ⟨K, mg, TT⟩)) p_eq (e_var 0) (e_var 1)))))))))
def B__law_same_4 (v_one v_due : D) : M (Out Unit Unit) :=
 (mIfx (mIsI2 .tuple .list (M.pure v_due)) (mIfx (mOr (mCmp dNe (mOfB (mIsI .tuple (M.pure v_one))) (mOfB (mIsI .tuple (M.pure v_due)))) (mNot (mIsI2 .tuple .list (M.pure v_one)))) (mRet (mOfB (M.pure false)))
 (mRet (mOfB (mAnd (mCmp dEq (mB dLen (mCons (M.pure v_one) (M.pure []))) (mB dLen (mCons (M.pure v_due) (M.pure [])))) (mBB dAll (mCons (mOfL (mCompB (mBL dZip (mCons (M.pure v_one) (mCons (M.pure v_due) (M.pure [])))) bnd2 yes (fun xtwoother => (callP 2 M__law_same_3 (mCons (M.pure xtwoother.1) (mCons (M.pure xtwoother.2) (M.pure []))))))) (M.pure [])))))))
 (mIfx (mOr (mIsI .bool (M.pure v_due)) (mOr (mIsI .bool (M.pure v_one)) (mOr (M.bind (M.pure v_due) fun x => M.pure (dIsN x)) (M.bind (M.pure v_one) fun x => M.pure (dIsN x))))) (mRet (mOfB (mAnd (mCmp dEq (mOfB (mIsI .bool (M.pure v_one))) (mOfB (mIsI .bool (M.pure v_due)))) (mAnd (mCmp dEq (mOfB (M.bind (M.pure v_one) fun x => M.pure (dIsN x))) (mOfB (M.bind (M.pure v_due) fun x => M.pure (dIsN x)))) (mCmp dEq (M.pure v_one) (M.pure v_due))))))
 (mRet (mOfB (mAnd (mCmp dEq (mOfB (mIsI .str (M.pure v_one))) (mOfB (mIsI .str (M.pure v_due)))) (mAnd (mIsI2 .int .str (M.pure v_one)) (mCmp dEq (M.pure v_one) (M.pure v_due))))))))
def W__law_same_4 (ds : List D) : M (Out Unit Unit) := match ds with
  | [v_one, v_due] => B__law_same_4 v_one v_due
  | _ => M.stuck
def M__law_same_4 (ds : List D) : M D := retD (W__law_same_4 ds)
theorem ok__law_same_4 (T : Txt P w K mg base TT) : CallF P w K mg base "_law_same" 5 (spP ⟨K, mg, TT⟩ 2 M__law_same_4) := by
  obtain ⟨f, fd, F, hm⟩ := T.d__law_same
  have SC := SC__law_same
  refine ⟨f, fd, ["one", "due"], fun_P (γ := Unit) (α := Unit) (Γm := fun _ => [.any, .any, .any, .any]) (Γn := fun _ => []) (mb := W__law_same_4) (k := 4) F SC rfl fun ds cdv A outer s H E hl hr ck => ?_, hm, F.kp, F.bindsN fun _ _ _ _ _ _ us hl => match us, hl with | [_, _], _ => rfl⟩
  match ds, hl with
  | [v_one, v_due], _ =>
  show PSs _ _ (rdS ⟨K, mg, TT⟩ E [.pur v_one, .pur v_due, .any, .any] _ _ (B__law_same_4 v_one v_due))
  exact
 (s_ifx (Γk := fun _ => []) (t_val (b_isi2 .tuple .list (e_var 1) T.n_isinstance T.n_tuple T.n_list)) (s_ifx (Γk := fun _ => []) (PW.pt (w_or (t_cmp (o_ne (Z := ⟨K, mg, TT⟩)) p_ne (e_ofB (b_isi .tuple (e_var 0) T.n_isinstance T.n_tuple)) (e_ofB (b_isi .tuple (e_var 1) T.n_isinstance T.n_tuple))) (w_or1 (t_not (t_val (b_isi2 .tuple .list (e_var 0) T.n_isinstance T.n_tuple T.n_list)))))) (s_ret (e_ofB b_bool))
 (s_ret (e_ofB (b_and (b_cmp (o_eq (Z := ⟨K, mg, TT⟩)) p_eq (e_callB (c_len (Z := ⟨K, mg, TT⟩)) p_len T.n_len hv_len (a_cons (e_var 0) a_nil)) (e_callB (c_len (Z := ⟨K, mg, TT⟩)) p_len T.n_len hv_len (a_cons (e_var 1) a_nil))) (b_one (b_callB (c_all (Z := ⟨K, mg, TT⟩)) p_all T.n_all hv_all (a_cons (e_ofL (l_comp (own := [("two", 2), ("other", 3)]) (i_zip (Z := ⟨K, mg, TT⟩) (RZ.pi_zipA rfl T.n_zip (a_cons (e_var 0) (a_cons (e_var 1) a_nil)))) (blkOk_by (by with_unfolding_all rfl)) (fun _ _ _ _ _ => (pg_tup rfl (pgs_cons (pg_name (i := 2) SC.nd rfl (by first | exact Or.inl rfl | exact Or.inr rfl)) (pgs_cons (pg_name (i := 3) SC.nd rfl (by first | exact Or.inl rfl | exact Or.inr rfl)) pgs_nil)))) (tg2 2 3) (fun _ _ _ _ _ xtwoother => ts_nil (m := yes)) (fun _ _ _ _ _ xtwoother => (cP (ok__law_same_3 T) hr (by decide) (a_cons (e_var 2) (a_cons (e_var 3) a_nil)))))) a_nil)))))))
 (s_ifx (Γk := fun _ => []) (PW.pt (w_or (t_val (b_isi .bool (e_var 1) T.n_isinstance T.n_bool)) (w_or (t_val (b_isi .bool (e_var 0) T.n_isinstance T.n_bool)) (w_or (t_isN (e_var 1)) (w_or1 (t_isN (e_var 0))))))) (s_ret (e_ofB (b_and (b_cmp (o_eq (Z := ⟨K, mg, TT⟩)) p_eq (e_ofB (b_isi .bool (e_var 0) T.n_isinstance T.n_bool)) (e_ofB (b_isi .bool (e_var 1) T.n_isinstance T.n_bool))) (b_and (b_cmp (o_eq (Z := ⟨K, mg, TT⟩)) p_eq (e_ofB (b_isN (e_var 0))) (e_ofB (b_isN (e_var 1)))) (b_one (b_cmp (o_eq (Z := ⟨K, mg, TT⟩)) p_eq (e_var 0) (e_var 1)))))))
 (s_ret (e_ofB (b_and (b_cmp (o_eq (Z := ⟨K, mg, TT⟩)) p_eq (e_ofB (b_isi .str (e_var 0) T.n_isinstance T.n_str)) (e_ofB (b_isi .str (e_var 1) T.n_isinstance T.n_str))) (b_and (b_isi2 .int .str (e_var 0) T.n_isinstance T.n_int T.n_str) (b_one (b_cmp (o_eq (Z := ⟨K, mg, TT⟩)) p_eq (e_var 0) (e_var 1)))))))))
end
end Law
end
section
set_option Elab.async false
set_option linter.all false
set_option maxRecDepth 100000
set_option maxHeartbeats 4000000
namespace Law
open PySem PySem.Spec PyProof.Rows L2 Sim
section
variable {P : Program} {w : World} {K : PySem.W.Frag} {mg : Str → Option Value} {base : Heap} {TT : List (Addr × Str)}
def B__law_known_right : M (Out Unit Unit) :=
 (mUnp (mB dTup (mCons (mB dTup (mCons (mB dTup (mCons (M.pure (.int 1)) (M.pure []))) (mCons (mB dTup (mCons (M.pure (.int 2)) (M.pure []))) (mCons (mB dTup (mCons (M.pure (.int 3)) (M.pure []))) (mCons (mB dTup (mCons (M.pure (.int 0)) (mCons (M.pure (.int 4)) (M.pure [])))) (mCons (mB dTup (mCons (M.pure (.int 0)) (M.pure []))) (M.pure []))))))) (mCons (mB dTup (mCons (M.pure (.int 0)) (mCons (M.pure (.int 1)) (mCons (M.pure (.int 2)) (mCons (M.pure (.int 3)) (M.pure [])))))) (M.pure [])))) bnd2 (fun xhallplayers => (M.bind (mBL dLst (mCons (mB dTup (mCons (M.pure (.int 1)) (mCons (M.pure (.int 2)) (mCons (M.pure (.int 3)) (M.pure []))))) (mCons (mB dTup (mCons (M.pure (.int 0)) (mCons (M.pure (.int 1)) (mCons (M.pure (.int 3)) (M.pure []))))) (M.pure [])))) fun v_rows => (M.bind (mBL dLst (mCons (mB dTup (mCons (M.pure (.int 0)) (mCons (M.pure (.int 4)) (M.pure [])))) (mCons (mB dTup (mCons (M.pure (.int 2)) (M.pure []))) (mCons (mB dTup (M.pure [])) (mCons (mB dTup (mCons (M.pure (.int 3)) (M.pure []))) (mCons (mB dTup (mCons (M.pure (.int 0)) (mCons (M.pure (.int 1)) (mCons (M.pure (.int 2)) (mCons (M.pure (.int 3)) (mCons (M.pure (.int 4)) (M.pure []))))))) (M.pure []))))))) fun v_cases => (M.bind (mBL dLst (mCons (mB dTup (mCons (M.pure (.int 0)) (mCons (M.pure (.int 1)) (mCons (M.pure (.int 4)) (M.pure []))))) (mCons (mB dTup (mCons (M.pure (.int 0)) (mCons (M.pure (.int 1)) (mCons (M.pure (.int 2)) (M.pure []))))) (mCons (mB dTup (M.pure [])) (mCons (mB dTup (mCons (M.pure (.int 3)) (M.pure []))) (mCons (mB dTup (mCons (M.pure (.int 0)) (mCons (M.pure (.int 1)) (mCons (M.pure (.int 2)) (mCons (M.pure (.int 3)) (mCons (M.pure (.int 4)) (M.pure []))))))) (M.pure []))))))) fun v_due => (mRet (callP 2 M__law_same_4 (mCons (mOfL (mCompB (mSeq (M.pure (.list v_cases))) some yes (fun xknowing => (callP 4 M_told (mCons (M.pure xhallplayers.1) (mCons (M.pure xhallplayers.2) (mCons (M.pure (.list v_rows)) (mCons (M.pure xknowing) (M.pure []))))))))) (mCons (M.pure (.list v_due)) (M.pure []))))))))))
def W__law_known_right (ds : List D) : M (Out Unit Unit) := match ds with
  | [] => B__law_known_right 
  | _ => M.stuck
def M__law_known_right (ds : List D) : M D := retD (W__law_known_right ds)
theorem SC__law_known_right : FnScope ["hall", "players", "rows", "cases", "due", "knowing"] [] (defScope (top 50)) := ⟨rfl, rfl, rfl, by decide +kernel, rfl, by decide +kernel, by decide +kernel⟩
theorem ok__law_known_right (T : Txt P w K mg base TT) : CallF P w K mg base "_law_known_right" 9 (spP ⟨K, mg, TT⟩ 0 M__law_known_right) := by
  obtain ⟨f, fd, F, hm⟩ := T.d__law_known_right
  have SC := SC__law_known_right
  refine ⟨f, fd, [], fun_P (γ := Unit) (α := Unit) (Γm := fun _ => [.any, .any, .any, .any, .any, .any]) (Γn := fun _ => []) (mb := W__law_known_right) (k := 8) F SC rfl fun ds cdv A outer s H E hl hr ck => ?_, hm, F.kp, F.bindsN fun _ _ _ _ _ _ us hl => match us, hl with | [], _ => rfl⟩
  match ds, hl with
  | [], _ =>
  show PSs _ _ (rdS ⟨K, mg, TT⟩ E [.any, .any, .any, .any, .any, .any] _ _ (B__law_known_right ))
  unfold B__law_known_right
  exact
 (s_unpack (e_tup (a_cons (e_tup (a_cons (e_tup (a_cons e_int a_nil)) (a_cons (e_tup (a_cons e_int a_nil)) (a_cons (e_tup (a_cons e_int a_nil)) (a_cons (e_tup (a_cons e_int (a_cons e_int a_nil))) (a_cons (e_tup (a_cons e_int a_nil)) a_nil)))))) (a_cons (e_tup (a_cons e_int (a_cons e_int (a_cons e_int (a_cons e_int a_nil))))) a_nil))) (pg_tup rfl (pgs_cons (pg_name (i := 0) SC.nd rfl (by first | exact Or.inl rfl | exact Or.inr rfl)) (pgs_cons (pg_name (i := 1) SC.nd rfl (by first | exact Or.inl rfl | exact Or.inr rfl)) pgs_nil))) (tg2 0 1) (fun xhallplayers =>
 (s_setL 2 (l_lst (a_cons (e_tup (a_cons e_int (a_cons e_int (a_cons e_int a_nil)))) (a_cons (e_tup (a_cons e_int (a_cons e_int (a_cons e_int a_nil)))) a_nil))) (fun v_rows =>
 (s_setL 3 (l_lst (a_cons (e_tup (a_cons e_int (a_cons e_int a_nil))) (a_cons (e_tup (a_cons e_int a_nil)) (a_cons (e_tup a_nil) (a_cons (e_tup (a_cons e_int a_nil)) (a_cons (e_tup (a_cons e_int (a_cons e_int (a_cons e_int (a_cons e_int (a_cons e_int a_nil)))))) a_nil)))))) (fun v_cases =>
 (s_setL 4 (l_lst (a_cons (e_tup (a_cons e_int (a_cons e_int (a_cons e_int a_nil)))) (a_cons (e_tup (a_cons e_int (a_cons e_int (a_cons e_int a_nil)))) (a_cons (e_tup a_nil) (a_cons (e_tup (a_cons e_int a_nil)) (a_cons (e_tup (a_cons e_int (a_cons e_int (a_cons e_int (a_cons e_int (a_cons e_int a_nil)))))) a_nil)))))) (fun v_due =>
 (s_freeze 2 rfl (s_freeze 3 rfl (s_freeze 4 rfl (s_ret (cP (ok__law_same_4 T) hr (by decide) (a_cons (e_ofL (l_comp (own := [("knowing", 5)]) (i_seq (Z := ⟨K, mg, TT⟩) (e_var 3)) (blkOk_by (by with_unfolding_all rfl)) (fun _ _ _ _ _ => (pg_name (i := 5) SC.nd rfl (by first | exact Or.inl rfl | exact Or.inr rfl))) (tg1 5) (fun _ _ _ _ _ xknowing => ts_nil (m := yes)) (fun _ _ _ _ _ xknowing => (cP (ok_told T) hr (by decide) (a_cons (e_var 0) (a_cons (e_var 1) (a_cons (e_var 2) (a_cons (e_var 5) a_nil)))))))) (a_cons (e_var 4) a_nil)))))))))))))))
def S__law_said (xn : Exn) : M (Out Unit Unit) :=
 (M.bind (mBL dLst (mCons (mOfB (M.opt (sub_ xn.name "BadHall"))) (mCons (mOfB (M.opt (sub_ xn.name "BadPlayers"))) (mCons (mOfB (M.opt (sub_ xn.name "BadKnowing"))) (M.pure []))))) fun v_flags => (mApp v_flags (mOfB (M.opt (sub_ xn.name "BadRows"))) (fun v_flags => (mIfx (mOr (mCmp dNe (M.bind (mOfB (M.pure true)) fun d => M.opt (dCount v_flags d)) (M.pure (.int 1))) (mNot (M.opt (sub_ xn.name "ValueError")))) (mRet (mB dTup (mCons (M.pure (.str "refused")) (mCons (M.pure (.str "other")) (M.pure [])))))
 (mRet (mIf (mTo (M.bind (M.pure (.int 3)) fun j => M.opt (dItem (.list v_flags) j))) (mB dTup (mCons (M.pure (.str "refused")) (mCons (M.pure (.str "rows")) (mCons (M.opt (xn.args.lookup ("at" : Str))) (M.pure []))))) (mB dTup (mCons (M.pure (.str "refused")) (mCons (mBin dItem (mOfL (mBL dLst (mCons (M.pure (.str "hall")) (mCons (M.pure (.str "players")) (mCons (M.pure (.str "knowing")) (M.pure [])))))) (M.bind (mOfB (M.pure true)) fun d => M.opt (dIndex v_flags d))) (M.pure []))))))))))
theorem SC__law_said : FnScope ["call", "error", "flags"] ["call"] (defScope (top 44)) := ⟨rfl, rfl, rfl, by decide +kernel, rfl, by decide +kernel, by decide +kernel⟩
theorem gives__law_said (T : Txt P w K mg base TT) {X : Cx} [ck : Cok ⟨K, mg, TT⟩ X] (hr : Room 2 X.A) (q : Str) (g : Addr) (cdv : Value) :
    LamX.GivesTo X ["call", "error", "flags"] "_law_said" (defScope (top 44)) g cdv (defBody (top 44)) "call" q (TTs ⟨K, mg, TT⟩ "told" (fun _ : Unit => [.any, .any, .any]) (fun _ : Unit => []) known_ S__law_said) :=
  said_gives (exc := "CardFault") (n := "error") (i := 1) (CF := He.ga K "CardFault") (sub := sub_) (fld := fld_) (known := known_) T.g_CardFault T.catch_CardFault SC__law_said.nd rfl rfl rfl rfl (fun _ => rfl) hr (fun _ => rfl) (fun _ => rfl) (fun s H a' oe dx pn C xn cy hk E hz hf => by
  have SC := SC__law_said
  show PSs _ _ (rdS _ _ [.any, .err a' dx xn.args, .any] _ _ (S__law_said xn))
  exact
 (s_setL 2 (l_lst (a_cons (e_ofB (b_isE 1 E hz hf (pv 1) T.n_isinstance)) (a_cons (e_ofB (b_isE 1 E hz hf (pv 1) T.n_isinstance)) (a_cons (e_ofB (b_isE 1 E hz hf (pv 1) T.n_isinstance)) a_nil)))) (fun v_flags =>
 (s_append 2 rfl (pe_bm PySem.F.plainAttrs_list PySem.F.slot_list_append PySem.F.type_list_append mt_append (pv 2) (pa_cons (e_ofB (b_isE 1 E hz hf (pv 1) T.n_isinstance)) pa_nil)) (fun v_flags =>
 (s_ifx (Γk := fun _ => []) (PW.pt (w_or (t_cmp (o_ne (Z := ⟨K, mg, TT⟩)) p_ne (e_countOwn 2 (pe_bm PySem.F.plainAttrs_list PySem.F.slot_list_count PySem.F.type_list_count mt_countF (pv 2) (pa_cons (e_ofB b_bool) pa_nil))) e_int) (w_or1 (t_not (t_val (b_isE 1 E hz hf (pv 1) T.n_isinstance)))))) (s_ret (e_tup (a_cons e_str (a_cons e_str a_nil))))
 (s_ret (e_if (t_val (b_ofE (e_ixOwn 2 (pv 2) e_int))) (e_tup (a_cons e_str (a_cons e_str (a_cons (e_fld 1 E hz hf (pv 1)) a_nil)))) (e_tup (a_cons e_str (a_cons (e_ix (o_ix (Z := ⟨K, mg, TT⟩)) p_ix (e_ofL (l_lst (a_cons e_str (a_cons e_str (a_cons e_str a_nil))))) (e_indexOwn 2 (pe_bm PySem.F.plainAttrs_list PySem.F.slot_list_index PySem.F.type_list_index mt_index (pv 2) (pa_cons (e_ofB b_bool) pa_nil)))) a_nil)))))))))))
end
end Law
end
section
set_option Elab.async false
set_option linter.all false
set_option maxRecDepth 100000
set_option maxHeartbeats 4000000
namespace Law
open PySem PySem.Spec PyProof.Rows L2 Sim
section
variable {P : Program} {w : World} {K : PySem.W.Frag} {mg : Str → Option Value} {base : Heap} {TT : List (Addr × Str)}
def B__law_refused_right (v_hall v_players v_rows : D) : M (Out Unit Unit) :=
 (M.bind (mB dLen (mCons (M.pure v_hall) (M.pure []))) fun v_persons => (M.bind (callS 1 M__law_any (mCons (mOfL (mBL dLst (mCons (mB dTup (mCons (M.pure v_persons) (M.pure []))) (mCons (mB dTup (mCons (M.bind (M.pure (.int 1)) fun x => M.opt (dNeg x)) (M.pure []))) (mCons (mOfL (mBL dLst (mCons (M.pure (.int 0)) (M.pure [])))) (mCons (mB dTup (mCons (M.pure (.int 0)) (mCons (M.pure (.int 0)) (M.pure [])))) (mCons (mB dTup (mCons (mOfB (M.pure true)) (M.pure []))) (mCons (M.pure .none) (mCons (M.pure (.int 0)) (mCons (mB dTup (mCons (M.pure (.str "0")) (M.pure []))) (mCons (mB dTup (mCons (M.pure .none) (M.pure []))) (mCons (M.pure (.dict [])) (mCons (mB dTup (mCons (mBin dSub (M.pure v_persons) (M.pure (.int 1))) (mCons (M.pure (.int 0)) (M.pure [])))) (mCons (mB dTup (mCons (mB dTup (mCons (M.pure (.int 0)) (M.pure []))) (M.pure []))) (M.pure []))))))))))))))) (M.pure []))) fun v_odd => (M.bind (callS 1 M__law_any (mCons (mOfL (mBL dLst (mCons (mOfL (mBL dListOf (mCons (M.pure v_players) (M.pure [])))) (mCons (mBin dAdd (M.pure v_players) (mB dTup (mCons (M.pure v_persons) (M.pure [])))) (mCons (mB dTup (mCons (M.pure (.int 0)) (mCons (M.pure (.int 0)) (M.pure [])))) (mCons (M.pure .none) (mCons (mB dTup (mCons (mOfB (M.pure true)) (M.pure []))) (mCons (mBin dAdd (mB dTup (mCons (M.bind (M.pure (.int 1)) fun x => M.opt (dNeg x)) (M.pure []))) (M.pure v_players)) (mCons (M.pure (.int 0)) (M.pure [])))))))))) (M.pure []))) fun v_bad => (M.bind (callS 1 M__law_any (mCons (mOfL (mBL dLst (mCons (mOfL (mBL dListOf (mCons (M.pure v_hall) (M.pure [])))) (mCons (mBin dAdd (mSl (M.pure v_hall) (M.pure none) (mEnd (M.bind (M.pure (.int 1)) fun x => M.opt (dNeg x)))) (mB dTup (mCons (mB dTup (mCons (M.pure v_persons) (M.pure []))) (M.pure [])))) (mCons (M.pure .none) (mCons (mBin dAdd (mSl (M.pure v_hall) (M.pure none) (mEnd (M.bind (M.pure (.int 1)) fun x => M.opt (dNeg x)))) (mB dTup (mCons (mOfL (mBL dLst (M.pure []))) (M.pure [])))) (mCons (mBin dAdd (mSl (M.pure v_hall) (M.pure none) (mEnd (M.bind (M.pure (.int 1)) fun x => M.opt (dNeg x)))) (mB dTup (mCons (mBin dMul (mB dTup (mCons (M.pure (.int 0)) (M.pure []))) (M.pure (.int 17))) (M.pure [])))) (mCons (mB dTup (M.pure [])) (M.pure []))))))))) (M.pure []))) fun v_none => (M.bind (mBL dLst (mCons (mSaid "told" known_ S__law_said (callP 4 M_told (mCons (M.pure v_hall) (mCons (M.pure v_players) (mCons (M.pure v_rows) (mCons (M.pure v_odd) (M.pure []))))))) (M.pure []))) fun v_words => (mApp v_words (mSaid "told" known_ S__law_said (callP 4 M_told (mCons (M.pure v_hall) (mCons (M.pure v_bad) (mCons (M.pure .none) (mCons (M.pure v_odd) (M.pure []))))))) (fun v_words => (mApp v_words (mSaid "told" known_ S__law_said (callP 4 M_told (mCons (M.pure v_none) (mCons (M.pure v_bad) (mCons (M.pure .none) (mCons (M.pure v_odd) (M.pure []))))))) (fun v_words => (mRet (mOfB (mCmp dEq (M.pure (.list v_words)) (mOfL (mBL dLst (mCons (mB dTup (mCons (M.pure (.str "refused")) (mCons (M.pure (.str "knowing")) (M.pure [])))) (mCons (mB dTup (mCons (M.pure (.str "refused")) (mCons (M.pure (.str "players")) (M.pure [])))) (mCons (mB dTup (mCons (M.pure (.str "refused")) (mCons (M.pure (.str "hall")) (M.pure [])))) (M.pure []))))))))))))))))))
def W__law_refused_right (ds : List D) : M (Out Unit Unit) := match ds with
  | [v_hall, v_players, v_rows] => B__law_refused_right v_hall v_players v_rows
  | _ => M.stuck
def M__law_refused_right (ds : List D) : M D := retD (W__law_refused_right ds)
theorem SC__law_refused_right : FnScope ["hand", "hall", "players", "rows", "persons", "odd", "bad", "none", "words"] ["hand", "hall", "players", "rows"] (defScope (top 49)) := ⟨rfl, rfl, rfl, by decide +kernel, rfl, by decide +kernel, by decide +kernel⟩
theorem ok__law_refused_right (T : Txt P w K mg base TT) : CallF P w K mg base "_law_refused_right" 11 (spS ⟨K, mg, TT⟩ 3 M__law_refused_right) := by
  obtain ⟨f, fd, c, Pt, F, hm, TB, hmT, hu⟩ := T.lam__law_refused_right
  have SC := SC__law_refused_right
  refine ⟨f, fd, ["hand", "hall", "players", "rows"], fun_Sc (γ := Unit) (α := Unit) (Γm := fun _ => [.any, .any, .any, .any, .any, .any, .any, .any, .any]) (Γn := fun _ => []) (mb := W__law_refused_right) (k := 10) F SC rfl fun ds A outer s H E hl hr ck ek => ?_, hm, F.F.kp, F.F.bindsN fun _ _ _ _ _ _ us hl => match us, hl with | [_, _, _, _], _ => rfl⟩
  match ds, hl with
  | [v_hall, v_players, v_rows], _ =>
  show PSs _ _ (rdS ⟨K, mg, TT⟩ XF [.thr, .pur v_hall, .pur v_players, .pur v_rows, .any, .any, .any, .any, .any] _ _ (B__law_refused_right v_hall v_players v_rows))
  exact
 (s_set 4 (e_callB (c_len (Z := ⟨K, mg, TT⟩)) p_len T.n_len hv_len (a_cons (e_var 1) a_nil)) (fun v_persons =>
 (s_set 5 (cS 0 (ok__law_any T) hr (by decide) (pv 0) (a_cons (e_ofL (l_lst (a_cons (e_tup (a_cons (e_var 4) a_nil)) (a_cons (e_tup (a_cons (e_un un_neg p_neg e_int) a_nil)) (a_cons (e_ofL (l_lst (a_cons e_int a_nil))) (a_cons (e_tup (a_cons e_int (a_cons e_int a_nil))) (a_cons (e_tup (a_cons (e_ofB b_bool) a_nil)) (a_cons e_non (a_cons e_int (a_cons (e_tup (a_cons e_str a_nil)) (a_cons (e_tup (a_cons e_non a_nil)) (a_cons e_dict0 (a_cons (e_tup (a_cons (e_bin op_sub p_sub (e_var 4) e_int) (a_cons e_int a_nil))) (a_cons (e_tup (a_cons (e_tup (a_cons e_int a_nil)) a_nil)) a_nil)))))))))))))) a_nil)) (fun v_odd =>
 (s_set 6 (cS 0 (ok__law_any T) hr (by decide) (pv 0) (a_cons (e_ofL (l_lst (a_cons (e_ofL (l_callTy (c_list (Z := ⟨K, mg, TT⟩)) p_list T.n_list hv_list (a_cons (e_var 2) a_nil))) (a_cons (e_bin (o_add (Z := ⟨K, mg, TT⟩)) p_add (e_var 2) (e_tup (a_cons (e_var 4) a_nil))) (a_cons (e_tup (a_cons e_int (a_cons e_int a_nil))) (a_cons e_non (a_cons (e_tup (a_cons (e_ofB b_bool) a_nil)) (a_cons (e_bin (o_add (Z := ⟨K, mg, TT⟩)) p_add (e_tup (a_cons (e_un un_neg p_neg e_int) a_nil)) (e_var 2)) (a_cons e_int a_nil))))))))) a_nil)) (fun v_bad =>
 (s_set 7 (cS 0 (ok__law_any T) hr (by decide) (pv 0) (a_cons (e_ofL (l_lst (a_cons (e_ofL (l_callTy (c_list (Z := ⟨K, mg, TT⟩)) p_list T.n_list hv_list (a_cons (e_var 1) a_nil))) (a_cons (e_bin (o_add (Z := ⟨K, mg, TT⟩)) p_add (e_slice (e_var 1) o_none (o_some (e_un un_neg p_neg e_int))) (e_tup (a_cons (e_tup (a_cons (e_var 4) a_nil)) a_nil))) (a_cons e_non (a_cons (e_bin (o_add (Z := ⟨K, mg, TT⟩)) p_add (e_slice (e_var 1) o_none (o_some (e_un un_neg p_neg e_int))) (e_tup (a_cons (e_ofL (l_lst a_nil)) a_nil))) (a_cons (e_bin (o_add (Z := ⟨K, mg, TT⟩)) p_add (e_slice (e_var 1) o_none (o_some (e_un un_neg p_neg e_int))) (e_tup (a_cons (e_bin (o_mul (Z := ⟨K, mg, TT⟩)) p_mul (e_tup (a_cons e_int a_nil)) e_int) a_nil))) (a_cons (e_tup a_nil) a_nil)))))))) a_nil)) (fun v_none =>
 (s_setL 8 (l_lst (a_cons (e_said (c := c) (Pt := Pt) (k := 8) T.d__law_said (fun g fd FF => FF.bindsN fun _ _ _ _ _ _ us hl => match us, hl with | [_], _ => rfl) SC__law_said rfl (.inl rfl) (fun g cdv => gives__law_said T (hr.mono (by decide)) _ g cdv) TB rfl hmT hu (hr.mono (by decide)) (LamX.lamS_by (by with_unfolding_all rfl)) (fun _ _ _ _ _ _ _ hr ck ek => (cP (ok_told T) hr (by decide) (a_cons (e_var 1) (a_cons (e_var 2) (a_cons (e_var 3) (a_cons (e_var 5) a_nil))))))) a_nil)) (fun v_words =>
 (s_append 8 rfl (pe_bm PySem.F.plainAttrs_list PySem.F.slot_list_append PySem.F.type_list_append mt_append (pv 8) (pa_cons (e_said (c := c) (Pt := Pt) (k := 8) T.d__law_said (fun g fd FF => FF.bindsN fun _ _ _ _ _ _ us hl => match us, hl with | [_], _ => rfl) SC__law_said rfl (.inl rfl) (fun g cdv => gives__law_said T (hr.mono (by decide)) _ g cdv) TB rfl hmT hu (hr.mono (by decide)) (LamX.lamS_by (by with_unfolding_all rfl)) (fun _ _ _ _ _ _ _ hr ck ek => (cP (ok_told T) hr (by decide) (a_cons (e_var 1) (a_cons (e_var 6) (a_cons e_non (a_cons (e_var 5) a_nil))))))) pa_nil)) (fun v_words =>
 (s_append 8 rfl (pe_bm PySem.F.plainAttrs_list PySem.F.slot_list_append PySem.F.type_list_append mt_append (pv 8) (pa_cons (e_said (c := c) (Pt := Pt) (k := 8) T.d__law_said (fun g fd FF => FF.bindsN fun _ _ _ _ _ _ us hl => match us, hl with | [_], _ => rfl) SC__law_said rfl (.inl rfl) (fun g cdv => gives__law_said T (hr.mono (by decide)) _ g cdv) TB rfl hmT hu (hr.mono (by decide)) (LamX.lamS_by (by with_unfolding_all rfl)) (fun _ _ _ _ _ _ _ hr ck ek => (cP (ok_told T) hr (by decide) (a_cons (e_var 7) (a_cons (e_var 6) (a_cons e_non (a_cons (e_var 5) a_nil))))))) pa_nil)) (fun v_words =>
 (s_freeze 8 rfl (s_ret (e_ofB (b_cmp (o_eq (Z := ⟨K, mg, TT⟩)) p_eq (e_var 8) (e_ofL (l_lst (a_cons (e_tup (a_cons e_str (a_cons e_str a_nil))) (a_cons (e_tup (a_cons e_str (a_cons e_str a_nil))) (a_cons (e_tup (a_cons e_str (a_cons e_str a_nil))) a_nil)))))))))))))))))))))))
def B__law_rows_right (v_hall v_players v_rows v_knowing : D) : M (Out Unit Unit) :=
 (mPar (mCons (mOfL (mBL dListOf (mCons (M.pure v_rows) (M.pure [])))) (mCons (callP 2 M__law_spread (mCons (M.pure v_rows) (mCons (M.pure v_knowing) (M.pure [])))) (M.pure []))) (fun xgivendue => (mIfx (mOr (mNot (mTo (callP 2 M__law_same_4 (mCons (callP 4 M_told (mCons (M.pure v_hall) (mCons (M.pure v_players) (mCons (M.pure xgivendue.1) (mCons (M.pure v_knowing) (M.pure [])))))) (mCons (M.pure xgivendue.2) (M.pure [])))))) (mCmp dNe (M.pure xgivendue.1) (M.pure v_rows))) (mRet (mOfB (M.pure false)))
 (M.bind (callS 1 M__law_draw (mCons (mBin dAdd (mB dLen (mCons (M.pure v_rows) (M.pure []))) (M.pure (.int 1))) (M.pure []))) fun v_at => (mIfx (mNot (mTo (callP 2 M__law_same_4 (mCons (callP 4 M_told (mCons (M.pure v_hall) (mCons (M.pure v_players) (mCons (mOfL (mSlL (M.pure v_rows) (M.pure none) (mEnd (M.pure v_at)))) (mCons (M.pure v_knowing) (M.pure [])))))) (mCons (callP 2 M__law_spread (mCons (mOfL (mSlL (M.pure v_rows) (M.pure none) (mEnd (M.pure v_at)))) (mCons (M.pure v_knowing) (M.pure [])))) (M.pure [])))))) (mRet (mOfB (M.pure false)))
 (M.bind (callS 2 M__law_bent_rows (mCons (M.pure v_rows) (mCons (mB dLen (mCons (M.pure v_hall) (M.pure []))) (M.pure [])))) fun v_bent => (M.bind (callP 3 M__law_first_bad (mCons (M.pure v_hall) (mCons (M.pure v_players) (mCons (M.pure v_bent) (M.pure []))))) fun v_spot => (mIfx (M.bind (M.pure v_spot) fun x => M.pure (dIsN x)) (mRet (callP 2 M__law_same_4 (mCons (callP 4 M_told (mCons (M.pure v_hall) (mCons (M.pure v_players) (mCons (M.pure v_bent) (mCons (M.pure v_knowing) (M.pure [])))))) (mCons (callP 2 M__law_spread (mCons (M.pure v_bent) (mCons (M.pure v_knowing) (M.pure [])))) (M.pure [])))))
 (M.bind (callS 1 M__law_any (mCons (mOfL (mBL dLst (mCons (M.pure v_knowing) (mCons (M.pure .none) (mCons (mOfL (mBL dLst (mCons (M.pure (.int 0)) (M.pure [])))) (M.pure [])))))) (M.pure []))) fun v_odd => (mRet (callP 2 M__law_same_4 (mCons (mSaid "told" known_ S__law_said (callP 4 M_told (mCons (M.pure v_hall) (mCons (M.pure v_players) (mCons (M.pure v_bent) (mCons (M.pure v_odd) (M.pure []))))))) (mCons (mB dTup (mCons (M.pure (.str "refused")) (mCons (M.pure (.str "rows")) (mCons (M.pure v_spot) (M.pure []))))) (M.pure []))))))))))))))
def W__law_rows_right (ds : List D) : M (Out Unit Unit) := match ds with
  | [v_hall, v_players, v_rows, v_knowing] => B__law_rows_right v_hall v_players v_rows v_knowing
  | _ => M.stuck
def M__law_rows_right (ds : List D) : M D := retD (W__law_rows_right ds)
theorem SC__law_rows_right : FnScope ["hand", "hall", "players", "rows", "knowing", "given", "due", "at", "bent", "spot", "odd"] ["hand", "hall", "players", "rows", "knowing"] (defScope (top 48)) := ⟨rfl, rfl, rfl, by decide +kernel, rfl, by decide +kernel, by decide +kernel⟩
theorem ok__law_rows_right (T : Txt P w K mg base TT) : CallF P w K mg base "_law_rows_right" 11 (spS ⟨K, mg, TT⟩ 4 M__law_rows_right) := by
  obtain ⟨f, fd, c, Pt, F, hm, TB, hmT, hu⟩ := T.lam__law_rows_right
  have SC := SC__law_rows_right
  refine ⟨f, fd, ["hand", "hall", "players", "rows", "knowing"], fun_Sc (γ := Unit) (α := Unit) (Γm := fun _ => [.any, .any, .any, .any, .any, .any, .any, .any, .any, .any, .any]) (Γn := fun _ => []) (mb := W__law_rows_right) (k := 10) F SC rfl fun ds A outer s H E hl hr ck ek => ?_, hm, F.F.kp, F.F.bindsN fun _ _ _ _ _ _ us hl => match us, hl with | [_, _, _, _, _], _ => rfl⟩
  match ds, hl with
  | [v_hall, v_players, v_rows, v_knowing], _ =>
  show PSs _ _ (rdS ⟨K, mg, TT⟩ XF [.thr, .pur v_hall, .pur v_players, .pur v_rows, .pur v_knowing, .any, .any, .any, .any, .any, .any] _ _ (B__law_rows_right v_hall v_players v_rows v_knowing))
  exact
 (s_par 5 6 (a_cons (e_ofL (l_callTy (c_list (Z := ⟨K, mg, TT⟩)) p_list T.n_list hv_list (a_cons (e_var 3) a_nil))) (a_cons (cP (ok__law_spread T) hr (by decide) (a_cons (e_var 3) (a_cons (e_var 4) a_nil))) a_nil)) (by decide) (fun xgivendue =>
 (s_ifx (Γk := fun _ => []) (PW.pt (w_or (t_not (t_val (b_ofE (cP (ok__law_same_4 T) hr (by decide) (a_cons (cP (ok_told T) hr (by decide) (a_cons (e_var 1) (a_cons (e_var 2) (a_cons (e_var 5) (a_cons (e_var 4) a_nil))))) (a_cons (e_var 6) a_nil)))))) (w_or1 (t_cmp (o_ne (Z := ⟨K, mg, TT⟩)) p_ne (e_var 5) (e_var 3))))) (s_ret (e_ofB b_bool))
 (s_set 7 (cS 0 (ok__law_draw T) hr (by decide) (pv 0) (a_cons (e_bin (o_add (Z := ⟨K, mg, TT⟩)) p_add (e_callB (c_len (Z := ⟨K, mg, TT⟩)) p_len T.n_len hv_len (a_cons (e_var 3) a_nil)) e_int) a_nil)) (fun v_at =>
 (s_ifx (Γk := fun _ => []) (t_not (t_val (b_ofE (cP (ok__law_same_4 T) hr (by decide) (a_cons (cP (ok_told T) hr (by decide) (a_cons (e_var 1) (a_cons (e_var 2) (a_cons (e_ofL (l_slice (e_var 3) o_none (o_some (e_var 7)))) (a_cons (e_var 4) a_nil))))) (a_cons (cP (ok__law_spread T) hr (by decide) (a_cons (e_ofL (l_slice (e_var 3) o_none (o_some (e_var 7)))) (a_cons (e_var 4) a_nil))) a_nil)))))) (s_ret (e_ofB b_bool))
 (s_set 8 (cS 0 (ok__law_bent_rows T) hr (by decide) (pv 0) (a_cons (e_var 3) (a_cons (e_callB (c_len (Z := ⟨K, mg, TT⟩)) p_len T.n_len hv_len (a_cons (e_var 1) a_nil)) a_nil))) (fun v_bent =>
 (s_set 9 (cP (ok__law_first_bad T) hr (by decide) (a_cons (e_var 1) (a_cons (e_var 2) (a_cons (e_var 8) a_nil)))) (fun v_spot =>
 (s_ifx (Γk := fun _ => []) (t_isN (e_var 9)) (s_ret (cP (ok__law_same_4 T) hr (by decide) (a_cons (cP (ok_told T) hr (by decide) (a_cons (e_var 1) (a_cons (e_var 2) (a_cons (e_var 8) (a_cons (e_var 4) a_nil))))) (a_cons (cP (ok__law_spread T) hr (by decide) (a_cons (e_var 8) (a_cons (e_var 4) a_nil))) a_nil))))
 (s_set 10 (cS 0 (ok__law_any T) hr (by decide) (pv 0) (a_cons (e_ofL (l_lst (a_cons (e_var 4) (a_cons e_non (a_cons (e_ofL (l_lst (a_cons e_int a_nil))) a_nil))))) a_nil)) (fun v_odd =>
 (s_ret (cP (ok__law_same_4 T) hr (by decide) (a_cons (e_said (c := c) (Pt := Pt) (k := 8) T.d__law_said (fun g fd FF => FF.bindsN fun _ _ _ _ _ _ us hl => match us, hl with | [_], _ => rfl) SC__law_said rfl (.inl rfl) (fun g cdv => gives__law_said T (hr.mono (by decide)) _ g cdv) TB rfl hmT hu (hr.mono (by decide)) (LamX.lamS_by (by with_unfolding_all rfl)) (fun _ _ _ _ _ _ _ hr ck ek => (cP (ok_told T) hr (by decide) (a_cons (e_var 1) (a_cons (e_var 2) (a_cons (e_var 8) (a_cons (e_var 10) a_nil))))))) (a_cons (e_tup (a_cons e_str (a_cons e_str (a_cons (e_var 9) a_nil)))) a_nil)))))))))))))))))
end
end Law
end
section
set_option Elab.async false
set_option linter.all false
set_option maxRecDepth 100000
set_option maxHeartbeats 4000000
namespace Law
open PySem PySem.Spec PyProof.Rows L2 Sim
section
variable {P : Program} {w : World} {K : PySem.W.Frag} {mg : Str → Option Value} {base : Heap} {TT : List (Addr × Str)}
def B__law_hand (ns : List Int) : M (Out Unit Unit) :=
 (M.bind (mCompB (mSeq (mOfL (M.bind (mEnd (M.pure (.int 63))) fun h => M.pure (cutL (ns.map PyData.int) none h)))) some yes (fun xcell => (mB dAbs (mCons (mB dInt (mCons (M.pure xcell) (M.pure []))) (M.pure []))))) fun v_cells => (mRetL (mBL dLst (mCons (M.pure (.list v_cells)) (mCons (M.pure (.int 0)) (mCons (M.pure (.int 0)) (mCons (mBin dAdd (M.pure (.int 211)) (mBin dMul (M.pure (.int 5)) (mB dLen (mCons (M.pure (.list v_cells)) (M.pure []))))) (mCons (M.pure (.int 0)) (M.pure [])))))))))
theorem SC__law_hand : FnScope ["script", "cells", "cell"] ["script"] (defScope (top 32)) := ⟨rfl, rfl, rfl, by decide +kernel, rfl, by decide +kernel, by decide +kernel⟩
theorem ok__law_hand (T : Txt P w K mg base TT) : CallF P w K mg base "_law_hand" 1 (spHand ⟨K, mg, TT⟩ fun ns => retLst (B__law_hand ns)) := by
  obtain ⟨f, fd, F, hm⟩ := T.d__law_hand
  have SC := SC__law_hand
  refine ⟨f, fd, ["script"], fun_H (γ := Unit) (α := Unit) (Γm := fun _ => [.any, .any, .any]) (Γn := fun _ => []) (mb := B__law_hand) (k := 0) F SC rfl fun ns cdv A outer s H E hr ck ek => ?_, hm, F.kp, F.bindsN fun _ _ _ _ _ _ us hl => match us, hl with | [_], _ => rfl⟩
  show PSs _ _ (rdS ⟨K, mg, TT⟩ XF [.scr (ns.map V.int), .any, .any] _ _ (B__law_hand ns))
  exact
 (s_setC 1 (own := [("cell", 2)]) (i_seq (Z := ⟨K, mg, TT⟩) (e_ofL (l_scr 0 (pv 0) (o_some e_int)))) (blkOk_by (by with_unfolding_all rfl)) (fun _ _ _ _ _ => (pg_name (i := 2) SC.nd rfl (by first | exact Or.inl rfl | exact Or.inr rfl))) (tg1 2) (fun _ _ _ _ _ xcell => ts_nil (m := yes)) (fun _ _ _ _ _ xcell => (e_callB call_abs p_abs T.n_abs hv_abs (a_cons (e_callTy call_int1 p_int T.n_int hv_int (a_cons (e_var 2) a_nil)) a_nil))) (fun v_cells =>
 (s_freeze 1 rfl (s_retL (l_lst (a_cons (e_var 1) (a_cons e_int (a_cons e_int (a_cons (e_bin (o_add (Z := ⟨K, mg, TT⟩)) p_add e_int (e_bin (o_mul (Z := ⟨K, mg, TT⟩)) p_mul e_int (e_callB (c_len (Z := ⟨K, mg, TT⟩)) p_len T.n_len hv_len (a_cons (e_var 1) a_nil)))) (a_cons e_int a_nil))))))))))
def B_law : M (Out Unit Unit) :=
 (mIfx (mNot (mTo (callP 0 M__law_known_right (M.pure [])))) (mRet (mOfB (M.pure false)))
 (mForB (α := Unit) (mBL dRng1 (mCons (M.pure (.int 3)) (M.pure []))) some (fun xturn _ =>
 (mUnp (mOfL (callSL 2 M__law_hall (mCons (callS 1 M__law_any (mCons (mOfL (mBL dLst (mCons (M.pure (.int 3)) (mCons (M.pure (.int 6)) (mCons (M.pure (.int 12)) (M.pure [])))))) (M.pure []))) (mCons (callS 1 M__law_any (mCons (mOfL (mBL dLst (mCons (M.pure (.int 2)) (mCons (M.pure (.int 5)) (mCons (M.pure (.int 16)) (M.pure [])))))) (M.pure []))) (M.pure []))))) bndL2 (fun xhallplayers => (mUnp (callS 3 M__law_drawn_turns (mCons (M.pure xhallplayers.1) (mCons (M.pure xhallplayers.2) (mCons (callS 1 M__law_any (mCons (mOfL (mBL dLst (mCons (M.pure (.int 2)) (mCons (M.pure (.int 9)) (mCons (M.pure (.int 40)) (M.pure [])))))) (M.pure []))) (M.pure []))))) bnd2 (fun xrowsbehind_v => (M.bind (mLRng (mRng1 (mB dLen (mCons (M.pure xhallplayers.1) (M.pure []))))) fun v_persons => (mForB (α := Unit) (mSeq (mB dTup (mCons (mB dTup (M.pure [])) (mCons (mB dTup (mCons (callS 1 M__law_any (mCons (M.pure (.list v_persons)) (M.pure []))) (M.pure []))) (mCons (callS 2 M__law_some (mCons (M.pure (.list v_persons)) (mCons (M.pure (.int 2)) (M.pure [])))) (mCons (callS 2 M__law_some (mCons (M.pure (.list v_persons)) (mCons (M.pure (.int 5)) (M.pure [])))) (M.pure []))))))) some (fun xknowing _ =>
 (mIfx (mNot (mTo (callS 4 M__law_rows_right (mCons (M.pure xhallplayers.1) (mCons (M.pure xhallplayers.2) (mCons (M.pure xrowsbehind_v.1) (mCons (M.pure xknowing) (M.pure [])))))))) (mRet (mOfB (M.pure false)))
 (M.pure (.nx ())))) () (fun _ =>
 (mIfx (mNot (mTo (callS 3 M__law_refused_right (mCons (M.pure xhallplayers.1) (mCons (M.pure xhallplayers.2) (mCons (M.pure xrowsbehind_v.1) (M.pure []))))))) (mRet (mOfB (M.pure false)))
 (M.pure (.nx ()))))))))))) () (fun _ =>
 (mRet (mOfB (M.pure true))))))
theorem SC_law : FnScope ["script", "hand", "turn", "hall", "players", "rows", "behind_v", "persons", "knowing"] ["script"] (defScope (top 51)) := ⟨rfl, rfl, rfl, by decide +kernel, rfl, by decide +kernel, by decide +kernel⟩
theorem ok_law (T : Txt P w K mg base TT) (hm : ∀ ns : List Int, ns.length ≤ 63 → ∃ ws s1 s2, retLst (B__law_hand ns) [] = .ok (ws, s1) ∧ retD B_law ws = .ok (.bool true, s2)) {f : Addr} {fd : FuncData} (F : FD K "law" "law" (top 51) f fd) :
    FnOk P w K mg base (L2.CX P w) 12 f fd ["script"] (spLaw ⟨K, mg, TT⟩ 63) := by
  have SC := SC_law
  refine fun_law (γ := Unit) (α := Unit) (Γm := fun _ => [.any, .any, .any, .any, .any, .any, .any, .any, .any]) (Γn := fun _ => []) (y := "hand") (z := "_law_hand") (j := 1) (k := 11) (N := ["turn", "hall", "players", "rows", "behind_v", "persons", "knowing"]) (mb := B_law) F SC (ok__law_hand T) (by decide) hm (fun cdv A outer s H E hr ck ek => ?_) rfl rfl rfl rfl (fun _ => rfl)
  show PSs _ _ (rdS ⟨K, mg, TT⟩ XF [.any, .thr, .any, .any, .any, .any, .any, .any, .any] _ _ B_law)
  unfold B_law
  exact
 (s_ifx (Γk := fun _ => []) (t_not (t_val (b_ofE (cP0 (ok__law_known_right T) hr (by decide))))) (s_ret (e_ofB b_bool))
 (s_for (Γl := fun _ : Unit => [.any, .thr, .any, .any, .any, .any, .any, .any, .any]) (i_rng1 (pi_range1 rfl T.n_range (a_cons e_int a_nil))) (pg_name (i := 2) SC.nd rfl (by first | exact Or.inl rfl | exact Or.inr rfl)) (tg1 2) (fun xturn _ =>
 (s_unpack (e_ofL (cSL 1 (ok__law_hall T) hr (by decide) (pv 1) (a_cons (cS 1 (ok__law_any T) hr (by decide) (pv 1) (a_cons (e_ofL (l_lst (a_cons e_int (a_cons e_int (a_cons e_int a_nil))))) a_nil)) (a_cons (cS 1 (ok__law_any T) hr (by decide) (pv 1) (a_cons (e_ofL (l_lst (a_cons e_int (a_cons e_int (a_cons e_int a_nil))))) a_nil)) a_nil)))) (pg_unl rfl (pgs_cons (pg_name (i := 3) SC.nd rfl (by first | exact Or.inl rfl | exact Or.inr rfl)) (pgs_cons (pg_name (i := 4) SC.nd rfl (by first | exact Or.inl rfl | exact Or.inr rfl)) pgs_nil))) (tgL2 3 4) (fun xhallplayers =>
 (s_unpack (cS 1 (ok__law_drawn_turns T) hr (by decide) (pv 1) (a_cons (e_var 3) (a_cons (e_var 4) (a_cons (cS 1 (ok__law_any T) hr (by decide) (pv 1) (a_cons (e_ofL (l_lst (a_cons e_int (a_cons e_int (a_cons e_int a_nil))))) a_nil)) a_nil)))) (pg_tup rfl (pgs_cons (pg_name (i := 5) SC.nd rfl (by first | exact Or.inl rfl | exact Or.inr rfl)) (pgs_cons (pg_name (i := 6) SC.nd rfl (by first | exact Or.inl rfl | exact Or.inr rfl)) pgs_nil))) (tg2 5 6) (fun xrowsbehind_v =>
 (s_setL 7 (l_rng1 (pe_listRg rfl rfl T.n_list (prg_1 rfl T.n_range (e_callB (c_len (Z := ⟨K, mg, TT⟩)) p_len T.n_len hv_len (a_cons (e_var 3) a_nil))))) (fun v_persons =>
 (s_freeze 7 rfl (s_for (Γl := fun _ : Unit => [.any, .thr, .pur xturn, .pur (xhallplayers.1), .pur (xhallplayers.2), .pur (xrowsbehind_v.1), .pur (xrowsbehind_v.2), .pur ((.list v_persons)), .any]) (i_seq (Z := ⟨K, mg, TT⟩) (e_tup (a_cons (e_tup a_nil) (a_cons (e_tup (a_cons (cS 1 (ok__law_any T) hr (by decide) (pv 1) (a_cons (e_var 7) a_nil)) a_nil)) (a_cons (cS 1 (ok__law_some T) hr (by decide) (pv 1) (a_cons (e_var 7) (a_cons e_int a_nil))) (a_cons (cS 1 (ok__law_some T) hr (by decide) (pv 1) (a_cons (e_var 7) (a_cons e_int a_nil))) a_nil)))))) (pg_name (i := 8) SC.nd rfl (by first | exact Or.inl rfl | exact Or.inr rfl)) (tg1 8) (fun xknowing _ =>
 (s_ifx (Γk := fun _ => []) (t_not (t_val (b_ofE (cS 1 (ok__law_rows_right T) hr (by decide) (pv 1) (a_cons (e_var 3) (a_cons (e_var 4) (a_cons (e_var 5) (a_cons (e_var 8) a_nil)))))))) (s_ret (e_ofB b_bool))
 (s_nil (.same (.same (.same (.same (.same (.same (.same (.same (.any .nil)))))))))))) (fun _ =>
 (s_ifx (Γk := fun _ => []) (t_not (t_val (b_ofE (cS 1 (ok__law_refused_right T) hr (by decide) (pv 1) (a_cons (e_var 3) (a_cons (e_var 4) (a_cons (e_var 5) a_nil))))))) (s_ret (e_ofB b_bool))
 (s_nil (.same (.same (.any (.any (.any (.any (.any (.any (.same .nil)))))))))))) (.same (.same (.same (.same (.same (.same (.same (.same (.same .nil)))))))))))))))))) (fun _ =>
 (s_ret (e_ofB b_bool))) (.same (.same (.same (.same (.same (.same (.same (.same (.same .nil)))))))))))
end
end Law
end
section
set_option Elab.async false
set_option linter.all false
set_option maxRecDepth 100000
set_option maxHeartbeats 400000
namespace Sim
open PySem PySem.Spec PyProof.Rows L2
/-! ### runs over a hand that keep it a hand -/
structure HandOk (s : List D) : Prop where
  ex : ∃ (cells : List Int) (i z seed cnt : Int), s = [.list (cells.map .int), .int i, .int z, .int seed, .int cnt] ∧ (∀ c ∈ cells, 0 ≤ c) ∧ 0 ≤ i ∧ 0 ≤ z ∧ cells.length ≤ 63
def Tri {α : Type} (m : M α) (Q : α → Prop) : Prop := ∀ s, HandOk s → ∃ a s', m s = .ok (a, s') ∧ HandOk s' ∧ Q a
/-- a run that leaves the hand as it is -/
def Det {α : Type} (m : M α) (a : α) : Prop := ∀ s, m s = .ok (a, s)
section
variable {α β γ δ ι : Type}
theorem Det.tri {m : M α} {a : α} (h : Det m a) : Tri m (· = a) := fun s hs => ⟨a, s, h s, hs, rfl⟩
theorem Det.triQ {m : M α} {a : α} {Q : α → Prop} (h : Det m a) (q : Q a) : Tri m Q := fun s hs => ⟨a, s, h s, hs, q⟩
theorem Det.pure {a : α} : Det (M.pure a) a := fun _ => rfl
theorem Det.bind {m : M α} {f : α → M β} {a : α} {b : β} (h : Det m a) (k : Det (f a) b) : Det (M.bind m f) b := fun s => by
  unfold M.bind
  rw [h s]
  exact k s
theorem Det.eq {m : M α} {a : α} (h : Det m a) : m = M.pure a := funext h
theorem Tri.pure {a : α} {Q : α → Prop} (q : Q a) : Tri (M.pure a) Q := fun s hs => ⟨a, s, rfl, hs, q⟩
theorem Tri.mono {m : M α} {Q R : α → Prop} (h : Tri m Q) (k : ∀ a, Q a → R a) : Tri m R := fun s hs => by
  obtain ⟨a, s', e, h', q⟩ := h s hs
  exact ⟨a, s', e, h', k a q⟩
theorem Tri.bind {m : M α} {f : α → M β} {Q : α → Prop} {R : β → Prop} (h : Tri m Q) (k : ∀ a, Q a → Tri (f a) R) : Tri (M.bind m f) R := fun s hs => by
  obtain ⟨a, s', e, h', q⟩ := h s hs
  obtain ⟨b, s2, e2, h2, r⟩ := k a q s' h'
  exact ⟨b, s2, by unfold M.bind; rw [e]; exact e2, h2, r⟩
theorem Tri.opt {o : Option α} {a : α} {Q : α → Prop} (e : o = some a) (q : Q a) : Tri (M.opt o) Q := by
  subst e
  exact .pure q
theorem Tri.optB {o : Option α} {a : α} {f : α → M β} {R : β → Prop} (e : o = some a) (k : Tri (f a) R) : Tri (M.bind (M.opt o) f) R := by
  subst e
  exact k
theorem Tri.pur {m : M α} {a : α} {s1 : List D} {Q : α → Prop} (e : m [] = .ok (a, s1)) (q : Q a) : Tri (M.pur m) Q := fun s hs => ⟨a, s, by unfold M.pur; rw [e], hs, q⟩
theorem Tri.nox {m : M α} {Q : α → Prop} (h : Tri m Q) : Tri (M.nox m) Q := fun s hs => by
  obtain ⟨a, s', e, h', q⟩ := h s hs
  exact ⟨a, s', by unfold M.nox; rw [e], h', q⟩
theorem Tri.callS {n : Nat} {m : List D → M D} {ms : M (List D)} {P : List D → Prop} {Q : D → Prop} (h : Tri ms P) (hl : ∀ ds, P ds → ds.length = n) (k : ∀ ds, P ds → Tri (m ds) Q) : Tri (callS n m ms) Q :=
  h.bind fun ds p => by
    rw [if_pos (hl ds p)]
    exact (k ds p).nox
/-- a comprehension: what holds of each item told -/
theorem Tri.turn {bnd : D → Option ι} {ft : ι → M Bool} {fe : ι → M D} {d : D} {x : ι} {R : D → Prop} (e : bnd d = some x) (ht : Tri (ft x) fun _ => True) (he : Tri (fe x) R) : Tri (mTurn bnd ft fe d) fun o => ∀ y, o = some y → R y :=
  Tri.nox (Tri.optB e (ht.bind fun b _ => by
    cases b with
    | true => exact he.bind fun y r => .pure fun z hz => by cases hz; exact r
    | false => exact .pure fun z hz => by cases hz))
theorem Tri.comp {bnd : D → Option ι} {ft : ι → M Bool} {fe : ι → M D} {R : D → Prop} : ∀ {l acc : List D}, (∀ d ∈ l, ∃ x, bnd d = some x ∧ Tri (ft x) (fun _ => True) ∧ Tri (fe x) R) → (∀ y ∈ acc, R y) → Tri (mComp bnd ft fe l acc) fun r => (∀ y ∈ r, R y) ∧ r.length ≤ acc.length + l.length
  | [], acc, _, h => .pure ⟨h, by simp⟩
  | d :: l, acc, k, h => by
    obtain ⟨x, e, ht, he⟩ := k d (by simp)
    refine (Tri.turn e ht he).bind fun o r => ?_
    refine (Tri.comp (fun d hd => k d (List.mem_cons_of_mem _ hd)) fun y hy => ?_).mono fun r' ⟨h1, h2⟩ => ⟨h1, ?_⟩
    · rcases List.mem_append.mp hy with z | z
      · exact h y z
      · cases o with
        | none => simp at z
        | some u => simp at z; subst z; exact r _ rfl
    · rw [List.length_append] at h2
      have : o.toList.length ≤ 1 := by cases o <;> simp
      simp only [List.length_cons]
      omega
theorem Tri.lim {l : List D} {f : List D → M β} {R : β → Prop} (h : l.length ≤ 1000000) (k : Tri (f l) R) : Tri (M.bind (lim l) f) R := by
  unfold Sim.lim
  rw [if_pos h]
  exact k
end
end Sim
end
section
set_option Elab.async false
set_option linter.all false
set_option maxRecDepth 100000
set_option maxHeartbeats 400000
namespace Sim
open PySem PySem.Spec PyProof.Rows L2
section
variable {α β γ δ ι : Type}
@[simp] theorem mCons_pure (a : D) (l : List D) : mCons (M.pure a) (M.pure l) = M.pure (a :: l) := rfl
@[simp] theorem mBin_pure (f : D → D → Option D) (a b : D) : mBin f (M.pure a) (M.pure b) = M.opt (f a b) := rfl
@[simp] theorem mBinL_pure (f : D → D → Option (List D)) (a b : D) : mBinL f (M.pure a) (M.pure b) = M.opt (f a b) := rfl
@[simp] theorem mCmp_pure (f : D → D → Option Bool) (a b : D) : mCmp f (M.pure a) (M.pure b) = M.opt (f a b) := rfl
@[simp] theorem mChain_pure (f f' : D → D → Option Bool) (a b c : D) : mChain f f' (M.pure a) (M.pure b) (M.pure c) = M.bind (M.opt (f a b)) fun k => if k then M.opt (f' b c) else M.pure false := rfl
@[simp] theorem mB_pure (f : List D → Option D) (l : List D) : mB f (M.pure l) = M.opt (f l) := rfl
@[simp] theorem mBB_pure (f : List D → Option Bool) (l : List D) : mBB f (M.pure l) = M.opt (f l) := rfl
@[simp] theorem mBL_pure (f : List D → Option (List D)) (l : List D) : mBL f (M.pure l) = M.opt (f l) := rfl
@[simp] theorem mSeq_pure (a : D) : mSeq (M.pure a) = M.opt (dItems a) := rfl
@[simp] theorem mOfB_pure (b : Bool) : mOfB (M.pure b) = M.pure (.bool b) := rfl
@[simp] theorem mOfL_pure (b : List D) : mOfL (M.pure b) = M.pure (.list b) := rfl
@[simp] theorem mTo_pure (b : Bool) : mTo (M.pure (.bool b)) = M.pure b := rfl
@[simp] theorem mIsI_pure (k : Cl) (d : D) : mIsI k (M.pure d) = M.pure (isI k d) := rfl
@[simp] theorem mIsI2_pure (k k' : Cl) (d : D) : mIsI2 k k' (M.pure d) = M.pure (isI k d || isI k' d) := rfl
@[simp] theorem mIf_pure (c : Bool) (a b : M D) : mIf (M.pure c) a b = if c then a else b := rfl
@[simp] theorem mIfx_pure (c : Bool) (a : M (Out Empty α)) (b : M (Out γ α)) : mIfx (M.pure c) a b = if c then exits a else b := rfl
@[simp] theorem mIfj_pure (c : Bool) (a b : M (Out δ α)) (k : δ → M (Out γ α)) : mIfj (M.pure c) a b k = andThen (if c then a else b) k := rfl
@[simp] theorem mRet_pure (d : D) : (mRet (M.pure d) : M (Out γ α)) = M.pure (.ret d) := rfl
@[simp] theorem mRetL_pure (d : List D) : (mRetL (M.pure d) : M (Out γ α)) = M.pure (.retL d) := rfl
@[simp] theorem mDo_pure (d : D) (k : M (Out γ α)) : mDo (M.pure d) k = k := rfl
@[simp] theorem mUnp_pure (d : D) (b : D → Option ι) (k : ι → M (Out γ α)) : mUnp (M.pure d) b k = M.bind (M.opt (b d)) k := rfl
@[simp] theorem mSl_pure (a : D) (l h : Option Int) : mSl (M.pure a) (M.pure l) (M.pure h) = M.opt (dSlice a l h) := rfl
@[simp] theorem mSlL_pure (a : D) (l h : Option Int) : mSlL (M.pure a) (M.pure l) (M.pure h) = M.opt (dSliceL a l h) := rfl
@[simp] theorem mEnd_pure (i : Int) : mEnd (M.pure (.int i)) = M.pure (some i) := rfl
@[simp] theorem mPar_pure (a b : D) (k : D × D → M (Out γ α)) : mPar (M.pure [a, b]) k = k (a, b) := rfl
@[simp] theorem mParLL_pure (a b : List D) (k : List D × List D → M (Out γ α)) : mParLL (M.pure a) (M.pure b) k = k (a, b) := rfl
@[simp] theorem mApp_pure (l : List D) (d : D) (k : List D → M (Out γ α)) : mApp l (M.pure d) k = M.bind (M.opt (dApp l d)) k := rfl
@[simp] theorem mRem_pure (l : List D) (d : D) (k : List D → M (Out γ α)) : mRem l (M.pure d) k = M.bind (M.opt (dRem l d)) k := rfl
@[simp] theorem mStore_pure (l : List D) (d j : D) (k : List D → M (Out γ α)) : mStore l (M.pure d) (M.pure j) k = M.bind (M.opt (dPut l j d)) k := rfl
@[simp] theorem mRng1_pure (d : D) : mRng1 (M.pure d) = M.opt (dRng1 [d]) := rfl
@[simp] theorem mRng2_pure (d e : D) : mRng2 (M.pure d) (M.pure e) = M.opt (dRng2 [d, e]) := rfl
@[simp] theorem mTRng_pure (l : List D) : mTRng (M.pure l) = M.pure (.tuple l) := rfl
@[simp] theorem mLRng_eq (m : M (List D)) : mLRng m = m := rfl
@[simp] theorem callP_0 (m : List D → M D) : callP 0 m (M.pure []) = M.pur (m []) := rfl
@[simp] theorem callL_0 (m : List D → M (List D)) : callL 0 m (M.pure []) = M.pur (m []) := rfl
@[simp] theorem callP_1 (a : D) (m : List D → M D) : callP 1 m (M.pure [a]) = M.pur (m [a]) := rfl
@[simp] theorem callL_1 (a : D) (m : List D → M (List D)) : callL 1 m (M.pure [a]) = M.pur (m [a]) := rfl
@[simp] theorem callP_2 (a b : D) (m : List D → M D) : callP 2 m (M.pure [a, b]) = M.pur (m [a, b]) := rfl
@[simp] theorem callL_2 (a b : D) (m : List D → M (List D)) : callL 2 m (M.pure [a, b]) = M.pur (m [a, b]) := rfl
@[simp] theorem callP_3 (a b c : D) (m : List D → M D) : callP 3 m (M.pure [a, b, c]) = M.pur (m [a, b, c]) := rfl
@[simp] theorem callL_3 (a b c : D) (m : List D → M (List D)) : callL 3 m (M.pure [a, b, c]) = M.pur (m [a, b, c]) := rfl
@[simp] theorem callP_4 (a b c d : D) (m : List D → M D) : callP 4 m (M.pure [a, b, c, d]) = M.pur (m [a, b, c, d]) := rfl
@[simp] theorem callL_4 (a b c d : D) (m : List D → M (List D)) : callL 4 m (M.pure [a, b, c, d]) = M.pur (m [a, b, c, d]) := rfl
@[simp] theorem callP_5 (a b c d e : D) (m : List D → M D) : callP 5 m (M.pure [a, b, c, d, e]) = M.pur (m [a, b, c, d, e]) := rfl
@[simp] theorem callL_5 (a b c d e : D) (m : List D → M (List D)) : callL 5 m (M.pure [a, b, c, d, e]) = M.pur (m [a, b, c, d, e]) := rfl
@[simp] theorem callP_6 (a b c d e f : D) (m : List D → M D) : callP 6 m (M.pure [a, b, c, d, e, f]) = M.pur (m [a, b, c, d, e, f]) := rfl
@[simp] theorem callL_6 (a b c d e f : D) (m : List D → M (List D)) : callL 6 m (M.pure [a, b, c, d, e, f]) = M.pur (m [a, b, c, d, e, f]) := rfl
theorem callP_pure {n : Nat} {m : List D → M D} {ds : List D} (h : ds.length = n) : callP n m (M.pure ds) = M.pur (m ds) := by
  show (if ds.length = n then M.pur (m ds) else M.stuck) = _
  rw [if_pos h]
theorem callL_pure {n : Nat} {m : List D → M (List D)} {ds : List D} (h : ds.length = n) : callL n m (M.pure ds) = M.pur (m ds) := by
  show (if ds.length = n then M.pur (m ds) else M.stuck) = _
  rw [if_pos h]
/-- a comprehension without a test, all plain -/
theorem mComp_map {bnd : D → Option ι} {fe : ι → M D} {g : D → D} : ∀ {l acc : List D}, (∀ d ∈ l, ∃ x, bnd d = some x ∧ fe x = M.pure (g d)) → mComp bnd yes fe l acc = M.pure (acc ++ l.map g)
  | [], acc, _ => by simp [mComp]
  | d :: l, acc, k => by
    obtain ⟨x, e, h⟩ := k d (by simp)
    have ht : mTurn bnd yes fe d = M.pure (some (g d)) := by
      unfold mTurn
      rw [e]
      show M.nox (M.bind (fe x) fun y => M.pure (some y)) = _
      rw [h]
      rfl
    unfold mComp
    rw [ht]
    show mComp bnd yes fe l (acc ++ (some (g d)).toList) = _
    rw [mComp_map fun d hd => k d (List.mem_cons_of_mem _ hd)]
    simp
theorem mCompB_map {bnd : D → Option ι} {fe : ι → M D} {g : D → D} {l : List D} (hl : l.length ≤ 1000000) (k : ∀ d ∈ l, ∃ x, bnd d = some x ∧ fe x = M.pure (g d)) : mCompB (M.pure l) bnd yes fe = M.pure (l.map g) := by
  show M.bind (lim l) _ = _
  unfold lim
  rw [if_pos hl]
  show mComp bnd yes fe l [] = _
  rw [mComp_map k]
  rfl
theorem boolsOf_map (g : D → Bool) : ∀ l : List D, boolsOf (l.map fun d => .bool (g d)) = some (l.map g)
  | [] => rfl
  | d :: l => by
    have := boolsOf_map g l
    simp [boolsOf, this]
theorem dAll_map (g : D → Bool) (l : List D) : dAll [.list (l.map fun d => .bool (g d))] = some (l.all g) := by
  simp [dAll, boolsOf_map, List.all_map]
theorem dAny_map (g : D → Bool) (l : List D) : dAny [.list (l.map fun d => .bool (g d))] = some (l.any g) := by
  simp [dAny, boolsOf_map, List.any_map]
theorem cutL_tail {α : Type} (xs : List α) : cutL xs (some 1) none = xs.drop 1 := by
  unfold cutL
  have e : HT.sIx xs.length 0 (some 1) = min 1 xs.length := HT.sIx_nat xs.length 0 1
  rw [e, HT.sIx_none]
  cases xs with
  | nil => rfl
  | cons a r =>
    have : min 1 (a :: r).length = 1 := by simp
    rw [this, List.take_of_length_le (by simp)]
theorem cutL_take {α : Type} (xs : List α) (k : Nat) : cutL xs none (some (k : Int)) = xs.take k := by
  unfold cutL
  rw [HT.sIx_none, HT.sIx_nat]
  simp
end
end Sim
end
section
set_option Elab.async false
set_option linter.all false
set_option maxRecDepth 100000
set_option maxHeartbeats 400000
namespace Sim
open PySem PySem.Spec PyProof.Rows L2
/-! ### runs as rows of binds -/
section
variable {α β γ δ ι : Type}
theorem callP_bind (n : Nat) (m : List D → M D) (a : M α) (f : α → M (List D)) : callP n m (M.bind a f) = M.bind a fun x => callP n m (f x) := M.bind_assoc _ _ _
theorem callL_bind (n : Nat) (m : List D → M (List D)) (a : M α) (f : α → M (List D)) : callL n m (M.bind a f) = M.bind a fun x => callL n m (f x) := M.bind_assoc _ _ _
theorem callS_bind (n : Nat) (m : List D → M D) (a : M α) (f : α → M (List D)) : callS n m (M.bind a f) = M.bind a fun x => callS n m (f x) := M.bind_assoc _ _ _
theorem callSL_bind (n : Nat) (m : List D → M (List D)) (a : M α) (f : α → M (List D)) : callSL n m (M.bind a f) = M.bind a fun x => callSL n m (f x) := M.bind_assoc _ _ _
theorem mForB_bind (mi : M α) (f : α → M (List D)) (bnd : D → Option ι) (F : ι → β → M (Out β β)) (a0 : β) (k : β → M (Out γ δ)) : mForB (M.bind mi f) bnd F a0 k = M.bind mi fun x => mForB (f x) bnd F a0 k := M.bind_assoc _ _ _
theorem mCompB_bind (mi : M α) (f : α → M (List D)) (bnd : D → Option ι) (ft : ι → M Bool) (fe : ι → M D) : mCompB (M.bind mi f) bnd ft fe = M.bind mi fun x => mCompB (f x) bnd ft fe := M.bind_assoc _ _ _
theorem mCompBL_bind (mi : M α) (f : α → M (List D)) (bnd : D → Option ι) (fe : ι → M (List D)) : mCompBL (M.bind mi f) bnd fe = M.bind mi fun x => mCompBL (f x) bnd fe := M.bind_assoc _ _ _
@[simp] theorem callS_0 (m : List D → M D) : callS 0 m (M.pure []) = M.nox (m []) := rfl
@[simp] theorem callS_1 (a : D) (m : List D → M D) : callS 1 m (M.pure [a]) = M.nox (m [a]) := rfl
@[simp] theorem callS_2 (a b : D) (m : List D → M D) : callS 2 m (M.pure [a, b]) = M.nox (m [a, b]) := rfl
@[simp] theorem callS_3 (a b c : D) (m : List D → M D) : callS 3 m (M.pure [a, b, c]) = M.nox (m [a, b, c]) := rfl
@[simp] theorem callS_4 (a b c d : D) (m : List D → M D) : callS 4 m (M.pure [a, b, c, d]) = M.nox (m [a, b, c, d]) := rfl
@[simp] theorem callS_5 (a b c d e : D) (m : List D → M D) : callS 5 m (M.pure [a, b, c, d, e]) = M.nox (m [a, b, c, d, e]) := rfl
@[simp] theorem callS_6 (a b c d e f : D) (m : List D → M D) : callS 6 m (M.pure [a, b, c, d, e, f]) = M.nox (m [a, b, c, d, e, f]) := rfl
@[simp] theorem callSL_0 (m : List D → M (List D)) : callSL 0 m (M.pure []) = M.nox (m []) := rfl
@[simp] theorem callSL_1 (a : D) (m : List D → M (List D)) : callSL 1 m (M.pure [a]) = M.nox (m [a]) := rfl
@[simp] theorem callSL_2 (a b : D) (m : List D → M (List D)) : callSL 2 m (M.pure [a, b]) = M.nox (m [a, b]) := rfl
@[simp] theorem callSL_3 (a b c : D) (m : List D → M (List D)) : callSL 3 m (M.pure [a, b, c]) = M.nox (m [a, b, c]) := rfl
@[simp] theorem callSL_4 (a b c d : D) (m : List D → M (List D)) : callSL 4 m (M.pure [a, b, c, d]) = M.nox (m [a, b, c, d]) := rfl
theorem dLst_some {ds : List D} (h : ds.length ≤ 1000) : dLst ds = some ds := if_pos h
theorem dTup_some {ds : List D} (h : ds.length ≤ 1000) : dTup ds = some (.tuple ds) := if_pos h
/-- a call that keeps the hand, then the rest -/
theorem Tri.noxB {m : M α} {f : α → M β} {Q : α → Prop} {R : β → Prop} (h : Tri m Q) (k : ∀ a, Q a → Tri (f a) R) : Tri (M.bind (M.nox m) f) R := h.nox.bind k
theorem Tri.ite {c : Prop} [Decidable c] {a b : M α} {Q : α → Prop} (h1 : c → Tri a Q) (h2 : ¬ c → Tri b Q) : Tri (if c then a else b) Q := by
  split <;> rename_i h
  · exact h1 h
  · exact h2 h
/-- a join -/
theorem Tri.join {m : M (Out γ α)} {k : γ → M (Out δ α)} {P : γ → Prop} {R : Out δ α → Prop} (h : Tri m fun o => ∃ x, o = .nx x ∧ P x) (hk : ∀ x, P x → Tri (k x) R) : Tri (andThen m k) R :=
  h.bind fun o ⟨x, e, p⟩ => by
    subst e
    exact hk x p
/-- a loop that goes through -/
theorem Tri.forI {f : D → α → M (Out α α)} {I : Nat → α → Prop} : ∀ {l : List D} {n : Nat} {a : α}, I n a → (∀ i d a, l[i]? = some d → I (n + i) a → Tri (f d a) fun o => ∃ a', (o = .nx a' ∨ o = .cnt a') ∧ I (n + i + 1) a') →
    Tri (mFor f l a : M (Out α β)) fun o => ∃ a', o = .nx a' ∧ I (n + l.length) a'
  | [], n, a, h, _ => .pure ⟨a, rfl, h⟩
  | d :: r, n, a, h, k => by
    refine (k 0 d a rfl h).bind fun o ⟨a', e, h'⟩ => ?_
    have recur := Tri.forI (f := f) (I := I) (l := r) (n := n + 1) (a := a') h' fun i d a hd hi => by
      have := k (i + 1) d a (by simpa using hd) (by rw [show n + (i + 1) = n + 1 + i by omega]; exact hi)
      rw [show n + (i + 1) + 1 = n + 1 + i + 1 by omega] at this
      exact this
    rw [show n + (d :: r).length = n + 1 + r.length by simp; omega]
    rcases e with rfl | rfl <;> exact recur
theorem Tri.forB {F : ι → α → M (Out α α)} {bnd : D → Option ι} {l : List D} {a0 : α} {k : α → M (Out γ β)} {R : Out γ β → Prop} (I : Nat → α → Prop) (h0 : I 0 a0)
    (hf : ∀ i d a, l[i]? = some d → I i a → ∃ x, bnd d = some x ∧ Tri (F x a) fun o => ∃ a', (o = .nx a' ∨ o = .cnt a') ∧ I (i + 1) a') (hk : ∀ a, I l.length a → Tri (k a) R) : Tri (mForB (M.pure l) bnd F a0 k) R := by
  unfold mForB
  rw [M.pure_bind]
  refine Tri.join (P := I l.length) ((Tri.forI (I := I) (n := 0) h0 fun i d a hd hi => ?_).mono fun o ⟨a', e, h⟩ => ⟨a', e, by simpa using h⟩) hk
  rw [Nat.zero_add] at hi ⊢
  obtain ⟨x, e, h⟩ := hf i d a hd hi
  exact .optB e h
/-- the same without a count -/
theorem Tri.forB' {F : ι → α → M (Out α α)} {bnd : D → Option ι} {l : List D} {a0 : α} {k : α → M (Out γ β)} {R : Out γ β → Prop} (I : α → Prop) (h0 : I a0)
    (hf : ∀ d ∈ l, ∀ a, I a → ∃ x, bnd d = some x ∧ Tri (F x a) fun o => ∃ a', (o = .nx a' ∨ o = .cnt a') ∧ I a') (hk : ∀ a, I a → Tri (k a) R) : Tri (mForB (M.pure l) bnd F a0 k) R :=
  .forB (fun _ => I) h0 (fun i d a hd hi => hf d (List.mem_of_getElem? hd) a hi) hk
/-- a comprehension, then the rest -/
theorem Tri.compB {bnd : D → Option ι} {ft : ι → M Bool} {fe : ι → M D} {R : D → Prop} {l : List D} (hl : l.length ≤ 1000000) (k : ∀ d ∈ l, ∃ x, bnd d = some x ∧ Tri (ft x) (fun _ => True) ∧ Tri (fe x) R) :
    Tri (mCompB (M.pure l) bnd ft fe) fun r => (∀ y ∈ r, R y) ∧ r.length ≤ l.length := by
  unfold mCompB
  rw [M.pure_bind]
  exact .lim hl ((Tri.comp (acc := []) k (by simp)).mono fun r h => by simpa using h)
theorem Tri.retD {m : M (Out γ α)} {R : D → Prop} (h : Tri m fun o => ∃ d, o = .ret d ∧ R d) : Tri (retD m) R := h.bind fun o ⟨d, e, r⟩ => by
  subst e
  exact .pure r
theorem Tri.retLst {m : M (Out γ α)} {R : List D → Prop} (h : Tri m fun o => ∃ d, o = .retL d ∧ R d) : Tri (retLst m) R := h.bind fun o ⟨d, e, r⟩ => by
  subst e
  exact .pure r
theorem Tri.get {f : List D → M β} {R : β → Prop} (h : ∀ s, HandOk s → Tri (f s) R) : Tri (M.bind mGet f) R := fun s hs => h s hs s hs
theorem Tri.set {s' : List D} {f : Unit → M β} {R : β → Prop} (h : HandOk s') (k : Tri (f ()) R) : Tri (M.bind (mSet s') f) R := fun _ _ => k s' h
end
end Sim
end
section
set_option Elab.async false
set_option linter.all false
set_option maxRecDepth 100000
set_option maxHeartbeats 400000
namespace Law
open PySem PySem.Spec PyProof.Rows L2 Sim
def isInt : D → Bool
  | .int _ => true
  | _ => false
@[simp] theorem m_is_integer (d : D) : M_is_integer [d] = M.pure (.bool (isInt d)) := by
  cases d <;> rfl
def within (lo hi : Int) (d : D) : Bool := match d with
  | .int i => decide (lo ≤ i) && decide (i ≤ hi)
  | _ => false
@[simp] theorem m_is_within (d : D) (lo hi : Int) : M_is_within [d, .int lo, .int hi] = M.pure (.bool (within lo hi d)) := by
  show retD (B_is_within d (.int lo) (.int hi)) = _
  unfold B_is_within
  cases d with
  | int i => by_cases h : lo ≤ i <;> simp [isInt, within, dCmp, h]
  | _ => rfl
/-- no tuple of more than a million -/
def Sm (d : D) : Prop := ∀ l, d = .tuple l → l.length ≤ 1000000
def pairB (r : Int → Int → Bool) : D → Bool
  | .tuple [.int a, .int b] => r a b
  | _ => false
def stepB (r : Int → Int → Bool) (l : List D) : Bool := (zipD l (l.drop 1)).all (pairB r)
theorem within_int {lo hi : Int} {d : D} (h : within lo hi d = true) : ∃ i, d = .int i ∧ lo ≤ i ∧ i ≤ hi := by
  cases d <;> simp [within] at h
  exact ⟨_, rfl, h.1, h.2⟩
theorem zipD_len (l m : List D) : (zipD l m).length ≤ l.length := by
  simp [zipD]
  omega
theorem mem_zipD {l m : List D} {d : D} (h : d ∈ zipD l m) : ∃ x y, x ∈ l ∧ y ∈ m ∧ d = .tuple [x, y] := by
  unfold zipD at h
  obtain ⟨⟨x, y⟩, h1, rfl⟩ := List.mem_map.mp h
  have := List.of_mem_zip h1
  exact ⟨x, y, this.1, this.2, rfl⟩
/-- all(x r y for x, y in zip(l, l[1:])), ints -/
theorem steps_eq (r : Int → Int → Bool) {l : List D} (hl : l.length ≤ 1000000) (hi : ∀ d ∈ l, ∃ i, d = .int i) :
    mCompB (M.pure (zipD l (l.drop 1))) bnd2 yes (fun x => mOfB (mCmp (dCmp r) (M.pure x.1) (M.pure x.2))) = M.pure ((zipD l (l.drop 1)).map fun d => .bool (pairB r d)) := by
  refine mCompB_map (g := fun d => .bool (pairB r d)) (Nat.le_trans (zipD_len _ _) hl) fun d hd => ?_
  obtain ⟨x, y, hx, hy, rfl⟩ := mem_zipD hd
  obtain ⟨i, rfl⟩ := hi x hx
  obtain ⟨j, rfl⟩ := hi y (List.mem_of_mem_drop hy)
  exact ⟨_, rfl, rfl⟩
def bagB (n : Int) : D → Bool
  | .tuple l => l.all (within 0 (n - 1)) && stepB (fun a b => decide (a ≤ b)) l
  | _ => false
theorem m_is_bag (d : D) (n : Int) (hd : Sm d) : M_is_bag [d, .int n] = M.pure (.bool (bagB n d)) := by
  show retD (B_is_bag d (.int n)) = _
  unfold B_is_bag
  cases d with
  | tuple l =>
    have hl := hd l rfl
    have e1 : mCompB (M.pure l) some yes (fun xone => callP 3 M_is_within (mCons (M.pure xone) (mCons (M.pure (.int 0)) (mCons (mBin dSub (M.pure (.int n)) (M.pure (.int 1))) (M.pure []))))) = M.pure (l.map fun d => .bool (within 0 (n - 1) d)) :=
      mCompB_map (g := fun d => .bool (within 0 (n - 1) d)) hl fun d _ => ⟨d, rfl, by simp [dSub]⟩
    have z1 : mSeq (M.pure (.tuple l)) = M.pure l := rfl
    have z2 : mBL dZip (mCons (M.pure (.tuple l)) (mCons (mSl (M.pure (.tuple l)) (mEnd (M.pure (.int 1))) (M.pure none)) (M.pure []))) = M.pure (zipD l (l.drop 1)) := by
      simp only [mCons_pure, mSl_pure, mEnd_pure, dSlice, cutL_tail, M.opt_some, mBL_pure, dZip]
    rw [z1, e1, z2]
    by_cases h : l.all (within 0 (n - 1)) = true
    · have hi : ∀ d ∈ l, ∃ i, d = .int i := fun d hd => by
        obtain ⟨i, e, _⟩ := within_int (List.all_eq_true.mp h d hd)
        exact ⟨i, e⟩
      rw [steps_eq (fun a b => decide (a ≤ b)) hl hi]
      simp only [mIsI_pure, isI, mNot_pure, mOr_false, mOfL_pure, mCons_pure, mBB_pure, dAll_map, M.opt_some, h, Bool.not_true, mIfx_pure, mOfB_pure, mRet_pure, bagB, stepB, Bool.true_and]
      rfl
    · simp only [mIsI_pure, isI, mNot_pure, mOr_false, mOfL_pure, mCons_pure, mBB_pure, dAll_map, M.opt_some, h, Bool.not_true, mIfx_pure, mOfB_pure, mRet_pure, bagB, stepB, Bool.false_and]
      rfl
  | _ => rfl
def riseB (n : Int) (d : D) : Bool := bagB n d && (match d with | .tuple l => stepB (fun a b => decide (a < b)) l | _ => false)
theorem bagB_tup {n : Int} {d : D} (h : bagB n d = true) : ∃ l, d = .tuple l ∧ (∀ x ∈ l, ∃ i, x = .int i ∧ 0 ≤ i ∧ i ≤ n - 1) := by
  cases d <;> simp [bagB] at h
  rename_i l
  exact ⟨l, rfl, fun x hx => within_int (h.1 x hx)⟩
theorem m_is_rising (d : D) (n : Int) (hd : Sm d) : M_is_rising [d, .int n] = M.pure (.bool (riseB n d)) := by
  show retD (B_is_rising d (.int n)) = _
  unfold B_is_rising
  have e : callP 2 M_is_bag (mCons (M.pure d) (mCons (M.pure (.int n)) (M.pure []))) = M.pure (.bool (bagB n d)) := by
    rw [mCons_pure, mCons_pure, callP_2, m_is_bag d n hd, M.pur_pure]
  rw [e]
  cases h : bagB n d with
  | false => simp [riseB, h]
  | true =>
    obtain ⟨l, rfl, hi⟩ := bagB_tup h
    have z2 : mBL dZip (mCons (M.pure (.tuple l)) (mCons (mSl (M.pure (.tuple l)) (mEnd (M.pure (.int 1))) (M.pure none)) (M.pure []))) = M.pure (zipD l (l.drop 1)) := by
      simp only [mCons_pure, mSl_pure, mEnd_pure, dSlice, cutL_tail, M.opt_some, mBL_pure, dZip]
    rw [z2, steps_eq (fun a b => decide (a < b)) (hd l rfl) (fun x hx => by obtain ⟨i, e, _⟩ := hi x hx; exact ⟨i, e⟩)]
    simp only [mTo_pure, mAnd_true, mOfL_pure, mCons_pure, mBB_pure, dAll_map, M.opt_some, mOfB_pure, mRet_pure, riseB, h, Bool.true_and, stepB, retD_ret]
def bookB (n : Int) (d : D) : Bool := bagB n d && (match d with | .tuple l => decide (l.length ≤ 16) | _ => false)
theorem m_is_book (d : D) (n : Int) (hd : Sm d) : M_is_book [d, .int n] = M.pure (.bool (bookB n d)) := by
  show retD (B_is_book d (.int n)) = _
  unfold B_is_book
  have e : callP 2 M_is_bag (mCons (M.pure d) (mCons (M.pure (.int n)) (M.pure []))) = M.pure (.bool (bagB n d)) := by
    rw [mCons_pure, mCons_pure, callP_2, m_is_bag d n hd, M.pur_pure]
  rw [e]
  cases h : bagB n d with
  | false => simp [bookB, h]
  | true =>
    obtain ⟨l, rfl, hi⟩ := bagB_tup h
    have e2 : decide (((l.length : Nat) : Int) ≤ 16) = decide (l.length ≤ 16) := by
      rw [Bool.eq_iff_iff]; simp; omega
    simp [bookB, h, dLen, dCmp, e2]
/-- a datum whose tuples, and those in it, are small -/
def Sm2 (d : D) : Prop := ∀ l, d = .tuple l → l.length ≤ 1000000 ∧ ∀ x ∈ l, Sm x
def hallB : D → Bool
  | .tuple l => decide (1 ≤ l.length) && decide (l.length ≤ 12) && l.all (bookB l.length)
  | _ => false
theorem m_is_hall (d : D) (hd : Sm2 d) : M_is_hall [d] = M.pure (.bool (hallB d)) := by
  show retD (B_is_hall d) = _
  unfold B_is_hall
  cases d with
  | tuple l =>
    obtain ⟨hl, hs⟩ := hd l rfl
    have z1 : mSeq (M.pure (.tuple l)) = M.pure l := rfl
    have e1 : mCompB (M.pure l) some yes (fun xone => callP 2 M_is_book (mCons (M.pure xone) (mCons (mB dLen (mCons (M.pure (.tuple l)) (M.pure []))) (M.pure [])))) = M.pure (l.map fun d => .bool (bookB l.length d)) :=
      mCompB_map (g := fun d => .bool (bookB l.length d)) hl fun d h => ⟨d, rfl, by
        show M.pur (M_is_book [d, .int (l.length : Nat)]) = _
        rw [m_is_book d _ (hs d h)]
        rfl⟩
    rw [z1, e1]
    by_cases h1 : 1 ≤ l.length
    · by_cases h2 : l.length ≤ 12
      · have c1 : (1 : Int) ≤ (l.length : Nat) := by omega
        have c2 : ((l.length : Nat) : Int) ≤ 12 := by omega
        simp [isI, dLen, dCmp, hallB, h1, h2, dAll_map, c1, c2]
      · have c1 : (1 : Int) ≤ (l.length : Nat) := by omega
        have c2 : ¬ ((l.length : Nat) : Int) ≤ 12 := by omega
        simp [isI, dLen, dCmp, hallB, h1, h2, c1, c2]
    · have c1 : ¬ (1 : Int) ≤ (l.length : Nat) := by omega
      simp [isI, dLen, dCmp, hallB, h1, c1]
  | _ => rfl
theorem m_check_hall (d : D) (hd : Sm2 d) : M_check_hall [d] = if hallB d then M.pure .none else M.raise ⟨"BadHall", []⟩ := by
  show retD (B_check_hall d) = _
  unfold B_check_hall
  rw [mCons_pure, callP_1, m_is_hall d hd]
  cases hallB d <;> simp
def lenD : D → Int
  | .tuple l => (l.length : Nat)
  | _ => 0
theorem hall_len {d : D} (h : hallB d = true) : dLen [d] = some (.int (lenD d)) := by
  cases d <;> simp [hallB] at h
  rfl
theorem m_check_players (d p : D) (hd : Sm2 d) (hp : Sm p) : M_check_players [d, p] = if hallB d then (if riseB (lenD d) p then M.pure .none else M.raise ⟨"BadPlayers", []⟩) else M.raise ⟨"BadHall", []⟩ := by
  show retD (B_check_players d p) = _
  unfold B_check_players
  rw [mCons_pure, callP_1, m_check_hall d hd]
  cases h : hallB d with
  | false => simp [mDo]
  | true =>
    simp [hall_len h, m_is_rising p _ hp]
    cases riseB (lenD d) p <;> simp
end Law
end
section
set_option Elab.async false
set_option linter.all false
set_option maxRecDepth 100000
set_option maxHeartbeats 400000
namespace Law
open PySem PySem.Spec PyProof.Rows L2 Sim
theorem m_check_knowing (d p : D) (hh : hallB d = true) (hp : Sm p) : M_check_knowing [d, p] = if riseB (lenD d) p then M.pure .none else M.raise ⟨"BadKnowing", []⟩ := by
  show retD (B_check_knowing d p) = _
  unfold B_check_knowing
  simp [hall_len hh, m_is_rising p _ hp]
  cases riseB (lenD d) p <;> simp
theorem m_is_person (d x : D) (hh : hallB d = true) : M_is_person [d, x] = M.pure (.bool (within 0 (lenD d - 1) x)) := by
  show retD (B_is_person d x) = _
  unfold B_is_person
  simp [hall_len hh, dSub]
theorem shaped_int (a : Int) : SeqAt.shaped (.int a) = true := by
  simp [SeqAt.shaped, PyData.canLay0, PyData.depth]
theorem dEq_int (a b : Int) : dEq (.int a) (.int b) = some (decide (a = b)) := by
  unfold dEq
  rw [shaped_int, shaped_int]
  simp [PyData.eqv]
  rfl
theorem dNe_int (a b : Int) : dNe (.int a) (.int b) = some (!decide (a = b)) := by
  unfold dNe
  rw [shaped_int, shaped_int]
  simp [PyData.eqv]
  rfl
def rowB (n : Nat) : D → Bool
  | .tuple l => decide (l.length = n) && l.all isInt
  | _ => false
theorem m_is_row_of (d : D) (n : Nat) (hd : Sm d) : M_is_row_of [d, .int n] = M.pure (.bool (rowB n d)) := by
  show retD (B_is_row_of d (.int n)) = _
  unfold B_is_row_of
  cases d with
  | tuple l =>
    have z1 : mSeq (M.pure (.tuple l)) = M.pure l := rfl
    have e1 : mCompB (M.pure l) some yes (fun xone => callP 1 M_is_integer (mCons (M.pure xone) (M.pure []))) = M.pure (l.map fun d => .bool (isInt d)) :=
      mCompB_map (g := fun d => .bool (isInt d)) (hd l rfl) fun d _ => ⟨d, rfl, by simp⟩
    rw [z1, e1]
    by_cases h : l.length = n
    · simp [isI, dLen, dEq_int, rowB, h, dAll_map]
    · have h' : ¬ ((l.length : Nat) : Int) = (n : Nat) := by omega
      simp [isI, dLen, dEq_int, rowB, h, h']
  | _ => rfl
end Law
end
section
set_option Elab.async false
set_option linter.all false
set_option maxRecDepth 100000
set_option maxHeartbeats 400000
namespace Law
open PySem PySem.Spec PyProof.Rows L2 Sim
def encB (b : List Int) : D := .tuple (b.map .int)
def encH (h : List (List Int)) : D := .tuple (h.map encB)
theorem flat_ints (b : List Int) : (b.map PyData.int).all flatD = true := by
  simp [flatD]
theorem dIn_ints (x : Int) (b : List Int) : dIn (.int x) (encB b) = some (b.contains x) := by
  have e : (b.map PyData.int).any (fun z => PyData.eqv z (.int x)) = b.contains x := by
    induction b with
    | nil => rfl
    | cons a r ih =>
      have e : PyData.eqv (.int a) (.int x) = (x == a) := by
        show (a == x) = (x == a)
        rw [Bool.eq_iff_iff, beq_iff_eq, beq_iff_eq]
        exact eq_comm
      simp only [List.map_cons, List.any_cons, ih, List.contains_cons, e]
  show (if flatD (.int x) && (b.map PyData.int).all flatD then some ((b.map PyData.int).any fun z => PyData.eqv z (.int x)) else none) = _
  rw [flat_ints, e]
  rfl
theorem dItem_tup {l : List D} {i : Nat} {d : D} (h : l[i]? = some d) : dItem (.tuple l) (.int i) = some d := by
  show L2.atI l (i : Int) = some d
  have hl : i < l.length := (List.getElem?_eq_some_iff.mp h).1
  unfold L2.atI ixN
  rw [if_pos (by omega), if_pos (by omega)]
  simpa using h
/-- the law of a turn, typed -/
def goesT (h : List (List Int)) (ps : List Int) (u v g : Int) : Bool :=
  decide (0 ≤ u ∧ u < h.length) && decide (0 ≤ v ∧ v < h.length) && decide (0 ≤ g ∧ g < h.length) && decide (u ≠ v) && ps.contains u && ps.contains v && (h.getD u.toNat []).contains v && (h.getD v.toNat []).contains g
def goesD (h : List (List Int)) (ps : List Int) : D → Bool
  | .tuple [.int u, .int v, .int g] => goesT h ps u v g
  | _ => false
theorem encH_at {h : List (List Int)} {u : Int} (h0 : 0 ≤ u) (h1 : u < h.length) : dItem (encH h) (.int u) = some (encB (h.getD u.toNat [])) := by
  have e : u = (u.toNat : Int) := by omega
  have hl : u.toNat < h.length := by omega
  rw [e]
  refine dItem_tup ?_
  rw [List.getElem?_map, List.getElem?_eq_getElem hl, List.getD_eq_getElem?_getD, Int.toNat_natCast, List.getElem?_eq_getElem hl]
  rfl
theorem rowB_three {d : D} (h : rowB 3 d = true) : ∃ u v g, d = .tuple [.int u, .int v, .int g] := by
  cases d <;> simp [rowB] at h
  rename_i l
  match l, h with
  | [a, b, c], ⟨_, h⟩ =>
    have ha := h a (by simp)
    have hb := h b (by simp)
    have hc := h c (by simp)
    cases a <;> simp [isInt] at ha
    cases b <;> simp [isInt] at hb
    cases c <;> simp [isInt] at hc
    exact ⟨_, _, _, rfl⟩
theorem len_encH (h : List (List Int)) : dLen [encH h] = some (.int (h.length : Nat)) := by
  simp [encH, dLen]
theorem m_is_personH (h : List (List Int)) (x : D) : M_is_person [encH h, x] = M.pure (.bool (within 0 ((h.length : Nat) - 1) x)) := by
  show retD (B_is_person (encH h) x) = _
  unfold B_is_person
  simp [len_encH, dSub]
theorem m_goes (h : List (List Int)) (ps : List Int) (d : D) (hd : Sm d) : M_goes [encH h, encB ps, d] = M.pure (.bool (goesD h ps d)) := by
  show retD (B_goes (encH h) (encB ps) d) = _
  unfold B_goes
  have e3 : callP 2 M_is_row_of (mCons (M.pure d) (mCons (M.pure (.int 3)) (M.pure []))) = M.pure (.bool (rowB 3 d)) := by
    rw [mCons_pure, mCons_pure, callP_2]
    exact congrArg M.pur (m_is_row_of d 3 hd)
  rw [e3]
  cases hr : rowB 3 d with
  | false =>
    have : goesD h ps d = false := by
      unfold goesD
      split
      · simp [rowB, isInt] at hr
      · rfl
    simp [this]
  | true =>
    obtain ⟨u, v, g, rfl⟩ := rowB_three hr
    have hl : lenD (encH h) = (h.length : Nat) := by simp [encH, lenD]
    have z1 : mSeq (M.pure (.tuple [.int u, .int v, .int g])) = M.pure [.int u, .int v, .int g] := rfl
    have e1 : mCompB (M.pure [.int u, .int v, .int g]) some yes (fun xone => callP 2 M_is_person (mCons (M.pure (encH h)) (mCons (M.pure xone) (M.pure [])))) = M.pure ([PyData.int u, .int v, .int g].map fun d => .bool (within 0 (h.length - 1) d)) :=
      mCompB_map (g := fun d => .bool (within 0 (h.length - 1) d)) (by simp) fun d _ => ⟨d, rfl, by
        rw [mCons_pure, mCons_pure, callP_2, m_is_personH]
        rfl⟩
    rw [z1, e1]
    simp only [mTo_pure, mNot_pure, Bool.not_true, mOr_false, mOfL_pure, mCons_pure, mBB_pure, dAll_map, M.opt_some, mIfx_pure, mUnp_pure, bnd3, M.pure_bind, mCmp_pure, dNe_int, dIn_ints, mBin_pure, goesD]
    have key : ([PyData.int u, .int v, .int g].all (within 0 ((h.length : Nat) - 1 : Int))) = (decide (0 ≤ u ∧ u < h.length) && decide (0 ≤ v ∧ v < h.length) && decide (0 ≤ g ∧ g < h.length)) := by
      rw [Bool.eq_iff_iff]
      simp only [List.all_cons, List.all_nil, within, Bool.and_true, Bool.and_eq_true, decide_eq_true_eq]
      omega
    rw [key]
    unfold goesT
    by_cases h1 : 0 ≤ u ∧ u < h.length
    · by_cases h2 : 0 ≤ v ∧ v < h.length
      · by_cases h3 : 0 ≤ g ∧ g < h.length
        · rw [encH_at h1.1 h1.2, encH_at h2.1 h2.2]
          simp only [M.opt_some, mCmp_pure, dIn_ints, h1, h2, h3, and_self, decide_true, Bool.and_self, Bool.not_true, Bool.false_eq_true, if_false, Bool.true_and]
          by_cases a1 : u = v
          · simp [a1]
          · cases a2 : ps.contains u <;> cases a3 : ps.contains v <;> cases a4 : (h.getD u.toNat []).contains v <;> simp [a1]
        · simp [h3]
      · simp [h2]
    · simp [h1]
end Law
end
section
set_option Elab.async false
set_option linter.all false
set_option maxRecDepth 100000
set_option maxHeartbeats 400000
namespace Law
open PySem PySem.Spec PyProof.Rows L2 Sim
def okE (n : Nat) : D → Bool
  | .int i => decide (0 ≤ i ∧ i < (n : Int))
  | _ => false
theorem elt_okE (h : List (List Int)) (x : D) : mOfB (mAnd (mIsI .int (M.pure x)) (mAnd (mNot (mIsI .bool (M.pure x))) (mChain dLe dLt (M.pure (.int 0)) (M.pure x) (mB dLen (mCons (M.pure (encH h)) (M.pure [])))))) = M.pure (.bool (okE h.length x)) := by
  rw [mCons_pure, mB_pure, len_encH, M.opt_some]
  cases x with
  | int i =>
    by_cases h0 : 0 ≤ i <;> simp [isI, okE, dCmp, h0]
  | _ => rfl
theorem goesD_ok {h : List (List Int)} {ps : List Int} {a b c : D} (e : goesD h ps (.tuple [a, b, c]) = true) : [a, b, c].all (okE h.length) = true := by
  unfold goesD at e
  split at e
  · rename_i u v g q
    cases q
    simp only [goesT, Bool.and_eq_true, decide_eq_true_eq] at e
    simp only [List.all_cons, List.all_nil, okE, Bool.and_true, Bool.and_eq_true, decide_eq_true_eq]
    exact ⟨e.1.1.1.1.1.1.1, e.1.1.1.1.1.1.2, e.1.1.1.1.1.2⟩
  · cases e
theorem okE_int {n : Nat} {d : D} (h : okE n d = true) : ∃ i, d = .int i ∧ 0 ≤ i ∧ i < (n : Int) := by
  cases d <;> simp [okE] at h
  exact ⟨_, rfl, h⟩
theorem m_law_goes (h : List (List Int)) (ps : List Int) (d : D) (hd : Sm d) : M__law_goes [encH h, encB ps, d] = M.pure (.bool (goesD h ps d)) := by
  show retD (B__law_goes (encH h) (encB ps) d) = _
  unfold B__law_goes
  cases d with
  | tuple l =>
    have hl := hd l rfl
    by_cases h3 : l.length = 3
    · have z1 : mSeq (M.pure (.tuple l)) = M.pure l := rfl
      have e1 := mCompB_map (bnd := some) (l := l) (fe := fun xone => mOfB (mAnd (mIsI .int (M.pure xone)) (mAnd (mNot (mIsI .bool (M.pure xone))) (mChain dLe dLt (M.pure (.int 0)) (M.pure xone) (mB dLen (mCons (M.pure (encH h)) (M.pure []))))))) (g := fun d => .bool (okE h.length d)) hl fun d _ => ⟨d, rfl, elt_okE h d⟩
      rw [z1, e1]
      have e2 : mCmp dNe (mB dLen (mCons (M.pure (.tuple l)) (M.pure []))) (M.pure (.int 3)) = M.pure false := by
        simp [dLen, dNe_int, h3]
      rw [e2]
      simp only [mIsI_pure, isI, mNot_pure, Bool.not_true, mOr_false, mIfx_pure, Bool.false_eq_true, if_false, mOfL_pure, mCons_pure, mBB_pure, dAll_map, M.opt_some]
      match l, h3 with
      | [a, b, c], _ =>
        cases ha : [a, b, c].all (okE h.length) with
        | false =>
          have : goesD h ps (.tuple [a, b, c]) = false := by
            cases e : goesD h ps (.tuple [a, b, c]) with
            | false => rfl
            | true => rw [goesD_ok e] at ha; cases ha
          rw [this]
          rfl
        | true =>
          simp only [List.all_cons, List.all_nil, Bool.and_true, Bool.and_eq_true] at ha
          obtain ⟨u, rfl, u1⟩ := okE_int ha.1
          obtain ⟨v, rfl, v1⟩ := okE_int ha.2.1
          obtain ⟨g, rfl, g1⟩ := okE_int ha.2.2
          simp only [Bool.not_true, mIfx_pure, Bool.false_eq_true, if_false, mUnp_pure, bnd3, M.opt_some, M.pure_bind, mCmp_pure, dNe_int, dIn_ints, mBin_pure, encH_at u1.1 u1.2, encH_at v1.1 v1.2, goesD, goesT]
          by_cases a1 : u = v
          · simp [a1]
          · cases a2 : ps.contains u <;> cases a3 : ps.contains v <;> cases a4 : (h.getD u.toNat []).contains v <;> simp [a1, u1, v1, g1]
    · have e2 : mCmp dNe (mB dLen (mCons (M.pure (.tuple l)) (M.pure []))) (M.pure (.int 3)) = M.pure true := by
        have : ¬ ((l.length : Nat) : Int) = 3 := by omega
        simp [dLen, dNe_int, this]
      have e3 : goesD h ps (.tuple l) = false := by
        unfold goesD
        split
        · rename_i e
          cases e
          simp at h3
        · rfl
      rw [e2, e3]
      simp [isI]
  | _ => rfl
end Law
end
section
set_option Elab.async false
set_option linter.all false
set_option maxRecDepth 100000
set_option maxHeartbeats 400000
namespace Law
open PySem PySem.Spec PyProof.Rows L2 Sim
/-! ### cards exchanged -/
theorem intsOf_map (b : List Int) : intsOf (b.map PyData.int) = some b := by
  induction b with
  | nil => rfl
  | cons a r ih => simp [intsOf, ih]
theorem dRem_ints {b : List Int} {x : Int} (h : x ∈ b) : dRem (b.map .int) (.int x) = some ((b.erase x).map .int) := by
  show (intsOf (b.map PyData.int)).bind _ = _
  rw [intsOf_map]
  simp [h]
def putT (b : List Int) (out card : Int) : List Int := srt (b.erase out ++ [card])
theorem sorted_ints {b : List Int} (hl : b.length ≤ 1000000) : dSorted [.list (b.map .int)] = some ((srt b).map .int) := by
  simp [dSorted, hl, intsOf_map]
theorem m_law_put {b : List Int} {out card : Int} (h : out ∈ b) (hl : b.length ≤ 1000) : M__law_put [encB b, .int out, .int card] = M.pure (encB (putT b out card)) := by
  show retD (B__law_put (encB b) (.int out) (.int card)) = _
  unfold B__law_put
  simp only [mCons_pure, mBL_pure, encB, dListOf, M.opt_some, M.pure_bind, mRem_pure, dRem_ints h]
  have h1 : (b.erase out).length + 1 ≤ 1000000 := by
    have := List.length_erase_of_mem h
    omega
  have e1 : dAddL (.list ((b.erase out).map .int)) (.list [.int card]) = some ((b.erase out ++ [card]).map .int) := by
    simp [dAddL, h1]
  have e2 := sorted_ints (b := b.erase out ++ [card]) (by simpa using h1)
  have e0 : dLst [.int card] = some [.int card] := rfl
  rw [e0]
  simp only [M.opt_some, mOfL_pure, mBinL_pure, e1, mCons_pure, mBL_pure, e2, mB_pure, dTuple, mRet_pure, retD_ret, putT]
theorem mFor_cons {α β : Type} {f : D → α → M (Out α α)} {d : D} {r : List D} {a a' : α} (h : f d a = M.pure (.nx a')) : (mFor f (d :: r) a : M (Out α β)) = mFor f r a' := by
  show M.bind (f d a) _ = _
  rw [h]
  rfl
theorem dInF_ints (x : Int) (b : List Int) : dInF (.int x) (b.map .int) = some (b.contains x) := by
  have := dIn_ints x b
  unfold dInF
  unfold dIn encB at this
  exact this
theorem m_less_one {b : List Int} {out : Int} (h : out ∈ b) : M_less [encB b, .list [.int out]] = M.pure ((b.erase out).map .int) := by
  show retLst (B_less (encB b) (.list [.int out])) = _
  unfold B_less
  simp only [mCons_pure, mBL_pure, encB, dListOf, M.opt_some, M.pure_bind, mForB, mSeq_pure, dItems]
  rw [mFor_cons (a' := (b.erase out).map .int)]
  · rfl
  · have hc : b.contains out = true := by simpa using h
    simp [dInF_ints, dRem_ints h, h]
theorem m_exchanged {b : List Int} {out card : Int} (h : out ∈ b) (hl : b.length ≤ 1000) : M_exchanged [encB b, .int out, .int card] = M.pure (encB (putT b out card)) := by
  show retD (B_exchanged (encB b) (.int out) (.int card)) = _
  unfold B_exchanged
  have e0 : ∀ x : Int, dLst [.int x] = some [.int x] := fun _ => rfl
  have h1 : (b.erase out).length + 1 ≤ 1000000 := by
    have := List.length_erase_of_mem h
    omega
  have e1 : dAddL (.list ((b.erase out).map .int)) (.list [.int card]) = some ((b.erase out ++ [card]).map .int) := by
    simp [dAddL, h1]
  have e2 := sorted_ints (b := b.erase out ++ [card]) (by simpa using h1)
  simp only [mCons_pure, mBL_pure, e0, M.opt_some, mOfL_pure, callL_2, m_less_one h, M.pur_pure, mBinL_pure, e1, e2, mB_pure, dTuple, mRet_pure, retD_ret, putT]
  rfl
end Law
end
section
set_option Elab.async false
set_option linter.all false
set_option maxRecDepth 100000
set_option maxHeartbeats 400000
namespace Law
open PySem PySem.Spec PyProof.Rows L2 Sim
def bk (h : List (List Int)) (u : Int) : List Int := h.getD u.toNat []
def doneT (h : List (List Int)) (u v g : Int) : List (List Int) := (h.set u.toNat (putT (bk h u) v g)).set v.toNat (putT (bk h v) g u)
theorem goesT_in {h : List (List Int)} {ps : List Int} {u v g : Int} (e : goesT h ps u v g = true) : (0 ≤ u ∧ u < h.length) ∧ (0 ≤ v ∧ v < h.length) ∧ (0 ≤ g ∧ g < h.length) ∧ u ≠ v ∧ u ∈ ps ∧ v ∈ ps ∧ v ∈ bk h u ∧ g ∈ bk h v := by
  unfold goesT at e
  simp only [Bool.and_eq_true, decide_eq_true_eq, List.contains_iff_mem] at e
  obtain ⟨⟨⟨⟨⟨⟨⟨a, b⟩, c⟩, d⟩, e1⟩, e2⟩, e3⟩, e4⟩ := e
  exact ⟨a, b, c, d, e1, e2, e3, e4⟩
theorem dPut_list {l : List D} {u : Int} {d : D} (h0 : 0 ≤ u) (h1 : u < l.length) : dPut l (.int u) d = some (l.set u.toNat d) := by
  have : ixN l.length u = some u.toNat := by
    unfold ixN
    rw [if_pos h0, if_pos h1]
  simp [dPut, this]
theorem m_behind {h : List (List Int)} {ps : List Int} {u v g : Int} (e : goesT h ps u v g = true) (hs : ∀ b ∈ h, b.length ≤ 1000) : M_behind [encH h, .tuple [.int u, .int v, .int g]] = M.pure (encH (doneT h u v g)) := by
  obtain ⟨⟨u0, u1⟩, ⟨v0, v1⟩, _, huv, _, _, hvu, hgv⟩ := goesT_in e
  show retD (B_behind (encH h) (.tuple [.int u, .int v, .int g])) = _
  unfold B_behind
  have su : (bk h u).length ≤ 1000 := by
    unfold bk
    rw [List.getD_eq_getElem?_getD, List.getElem?_eq_getElem (by omega : u.toNat < h.length)]
    exact hs _ (List.getElem_mem _)
  have sv : (bk h v).length ≤ 1000 := by
    unfold bk
    rw [List.getD_eq_getElem?_getD, List.getElem?_eq_getElem (by omega : v.toNat < h.length)]
    exact hs _ (List.getElem_mem _)
  have e1 : mBin dItem (M.pure (encH h)) (M.pure (.int u)) = M.pure (encB (bk h u)) := by rw [mBin_pure, encH_at u0 u1]; rfl
  have e2 : mBin dItem (M.pure (encH h)) (M.pure (.int v)) = M.pure (encB (bk h v)) := by rw [mBin_pure, encH_at v0 v1]; rfl
  have e3 : mBL dListOf (mCons (M.pure (encH h)) (M.pure [])) = M.pure (h.map encB) := rfl
  have e4 : (mBL dListOf (M.pure [encH h])) = M.pure (h.map encB) := rfl
  simp only [mUnp_pure, bnd3, M.opt_some, M.pure_bind, e1, e2, mCons_pure, e4, callP_3, m_exchanged hvu su, m_exchanged hgv sv, M.pur_pure, mStore_pure]
  rw [dPut_list u0 (by simpa using u1), M.opt_some, M.pure_bind, dPut_list v0 (by simpa using v1), M.opt_some, M.pure_bind]
  simp only [mB_pure, dTuple, M.opt_some, mRet_pure, retD_ret, encH, doneT, List.map_set]
end Law
end
section
set_option Elab.async false
set_option linter.all false
set_option maxRecDepth 100000
set_option maxHeartbeats 400000
namespace Law
open PySem PySem.Spec PyProof.Rows L2 Sim
def doneE (h : List (List Int)) (u v g : Int) : D → D
  | .tuple [.int i, b] => if i = u then encB (putT (bk h u) v g) else if i = v then encB (putT (bk h v) g u) else b
  | d => d
theorem mem_enumD {l : List D} {d : D} (h : d ∈ enumD l) : ∃ (i : Nat) (x : D), l[i]? = some x ∧ d = .tuple [.int (i : Nat), x] := by
  obtain ⟨i, hi, e⟩ := List.mem_iff_getElem.mp h
  have hi' : i < l.length := by simpa [enumD] using hi
  refine ⟨i, l[i], List.getElem?_eq_getElem hi', ?_⟩
  rw [← e]
  simp [enumD]
theorem enumD_len (l : List D) : (enumD l).length = l.length := by simp [enumD]
theorem m_law_done {h : List (List Int)} {ps : List Int} {u v g : Int} (e : goesT h ps u v g = true) (hs : ∀ b ∈ h, b.length ≤ 1000) (hh : h.length ≤ 1000) : M__law_done [encH h, .tuple [.int u, .int v, .int g]] = M.pure (encH (doneT h u v g)) := by
  obtain ⟨⟨u0, u1⟩, ⟨v0, v1⟩, _, huv, _, _, hvu, hgv⟩ := goesT_in e
  show retD (B__law_done (encH h) (.tuple [.int u, .int v, .int g])) = _
  unfold B__law_done
  simp only [mUnp_pure, bnd3, M.opt_some, M.pure_bind]
  have z : mBL dEnumT (mCons (M.pure (encH h)) (M.pure [])) = M.pure (enumD (h.map encB)) := rfl
  rw [z]
  have hbk : ∀ (i : Nat) (x : D), (h.map encB)[i]? = some x → x = encB (bk h (i : Nat)) := fun i x hx => by
    rw [List.getElem?_map, Option.map_eq_some_iff] at hx
    obtain ⟨b, hb, rfl⟩ := hx
    unfold bk
    rw [List.getD_eq_getElem?_getD, Int.toNat_natCast, hb]
    rfl
  have hsb : ∀ (i : Nat) (x : D), (h.map encB)[i]? = some x → (bk h (i : Nat)).length ≤ 1000 := fun i x hx => by
    rw [List.getElem?_map, Option.map_eq_some_iff] at hx
    obtain ⟨b, hb, rfl⟩ := hx
    unfold bk
    rw [List.getD_eq_getElem?_getD, Int.toNat_natCast, hb]
    exact hs b (List.mem_of_getElem? hb)
  rw [mCompB_map (g := doneE h u v g) (by rw [enumD_len, List.length_map]; omega) fun d hd => ?_]
  · have key : (enumD (h.map encB)).map (doneE h u v g) = (doneT h u v g).map encB := by
      apply List.ext_getElem
      · simp [enumD_len, doneT]
      · intro i h1 h2
        have hi : i < h.length := by simpa [enumD_len] using h1
        have hb : h[i] = bk h (i : Nat) := by
          unfold bk
          rw [List.getD_eq_getElem?_getD, Int.toNat_natCast, List.getElem?_eq_getElem hi]
          rfl
        simp only [List.getElem_map, enumD, List.getElem_mapIdx, doneE, doneT, List.getElem_set]
        by_cases a1 : (i : Int) = u
        · have a2 : ¬ v.toNat = i := by omega
          have a3 : u.toNat = i := by omega
          simp [a1, a2, a3]
        · by_cases b1 : (i : Int) = v
          · have b2 : v.toNat = i := by omega
            simp [a1, b1, b2]
            exact fun z => absurd z.symm huv
          · have b2 : ¬ v.toNat = i := by omega
            have b3 : ¬ u.toNat = i := by omega
            simp [a1, b1, b2, b3]
    rw [key]
    rfl
  · obtain ⟨i, x, hx, rfl⟩ := mem_enumD hd
    refine ⟨_, rfl, ?_⟩
    have ex := hbk i x hx
    subst ex
    simp only [mCmp_pure, dEq_int, M.opt_some, mIf_pure, doneE]
    by_cases a1 : (i : Int) = u
    · subst a1
      simp [m_law_put hvu (hsb i _ hx)]
    · by_cases b1 : (i : Int) = v
      · subst b1
        simp [a1, m_law_put hgv (hsb i _ hx)]
      · simp [a1, b1]
end Law
end
section
set_option Elab.async false
set_option linter.all false
set_option maxRecDepth 100000
set_option maxHeartbeats 400000
namespace Law
open PySem PySem.Spec PyProof.Rows L2 Sim
def step (h : List (List Int)) : D → List (List Int)
  | .tuple [.int u, .int v, .int g] => doneT h u v g
  | _ => h
/-- where the first row stands that does not go -/
def fb (ps : List Int) : List (List Int) → List D → Option Nat
  | _, [] => none
  | h, d :: r => if goesD h ps d = true then (fb ps (step h d) r).map (· + 1) else some 0
def enumF : Nat → List D → List D
  | _, [] => []
  | k, d :: r => .tuple [.int (k : Nat), d] :: enumF (k + 1) r
theorem enumF_eq : ∀ (k : Nat) (l : List D), enumF k l = l.mapIdx fun i d => .tuple [.int ((k + i : Nat) : Int), d]
  | _, [] => rfl
  | k, d :: r => by
    rw [enumF, List.mapIdx_cons, enumF_eq (k + 1) r]
    congr 1
    apply List.ext_getElem
    · simp
    · intro i h1 h2
      simp
      omega
theorem enumD_F (l : List D) : enumD l = enumF 0 l := by
  rw [enumF_eq]
  simp [enumD]
theorem goesD_int {h : List (List Int)} {ps : List Int} {d : D} (e : goesD h ps d = true) : ∃ u v g, d = .tuple [.int u, .int v, .int g] ∧ goesT h ps u v g = true := by
  unfold goesD at e
  split at e
  · exact ⟨_, _, _, rfl, e⟩
  · cases e
def Sb (h : List (List Int)) : Prop := ∀ b ∈ h, b.length ≤ 1000
theorem putT_len {b : List Int} {o c : Int} (h : o ∈ b) : (putT b o c).length = b.length := by
  have h1 : 0 < b.length := List.length_pos_of_mem h
  have h2 := List.length_erase_of_mem h
  have h3 : (srt (b.erase o ++ [c])).length = (b.erase o ++ [c]).length := (srt_perm _).length_eq
  unfold putT
  rw [h3, List.length_append, h2]
  simp
  omega
theorem bk_mem {h : List (List Int)} {u : Int} (h0 : 0 ≤ u) (h1 : u < h.length) : bk h u ∈ h := by
  unfold bk
  rw [List.getD_eq_getElem?_getD, List.getElem?_eq_getElem (by omega : u.toNat < h.length)]
  exact List.getElem_mem _
theorem doneT_mem {h : List (List Int)} {u v g : Int} {b : List Int} (hb : b ∈ doneT h u v g) : b ∈ h ∨ b = putT (bk h u) v g ∨ b = putT (bk h v) g u := by
  unfold doneT at hb
  rcases List.mem_or_eq_of_mem_set hb with z | z
  · rcases List.mem_or_eq_of_mem_set z with z | z
    · exact .inl z
    · exact .inr (.inl z)
  · exact .inr (.inr z)
theorem step_sb {h : List (List Int)} {ps : List Int} {u v g : Int} (e : goesT h ps u v g = true) (s : Sb h) : Sb (doneT h u v g) := fun b hb => by
  obtain ⟨⟨u0, u1⟩, ⟨v0, v1⟩, _, _, _, _, hvu, hgv⟩ := goesT_in e
  rcases doneT_mem hb with z | z | z
  · exact s b z
  · rw [z, putT_len hvu]; exact s _ (bk_mem u0 u1)
  · rw [z, putT_len hgv]; exact s _ (bk_mem v0 v1)
theorem last_at {acc : List D} {x : D} (h : acc.getLast? = some x) : dItem (.list acc) (.int (-1)) = some x := by
  show L2.atI acc (-1) = some x
  have hl : 0 < acc.length := by
    cases acc with
    | nil => cases h
    | cons a r => simp
  unfold L2.atI ixN
  rw [if_neg (by omega), if_pos (by omega)]
  rw [List.getLast?_eq_getElem?] at h
  have : ((-1 : Int) + (acc.length : Nat)).toNat = acc.length - 1 := by omega
  show acc[((-1 : Int) + (acc.length : Nat)).toNat]? = some x
  rw [this]
  exact h
/-- one row of halls_of -/
def rowF (ps : D) : D → List D → M (Out (List D) (List D)) := fun d afound => M.bind (M.opt (bnd2 d)) fun xatturn =>
 (mIfx (mOr (mCmp dGe (M.pure xatturn.1) (M.pure (.int 1000000))) (mNot (mTo (callP 3 M_goes (mCons (M.bind (M.bind (M.pure (.int 1)) fun x => M.opt (dNeg x)) fun j => M.opt (dItem (.list afound) j)) (mCons (M.pure ps) (mCons (M.pure xatturn.2) (M.pure [])))))))) (mRaise1 "BadRows" "at" (M.pure xatturn.1))
 (mApp afound (callP 2 M_behind (mCons (M.bind (M.bind (M.pure (.int 1)) fun x => M.opt (dNeg x)) fun j => M.opt (dItem (.list afound) j)) (mCons (M.pure xatturn.2) (M.pure [])))) (fun v_found => (M.pure (.nx v_found)))))
theorem rowF_eq {ps : List Int} {h : List (List Int)} {k : Nat} {acc : List D} {d : D} (hl : acc.getLast? = some (encH h)) (hk : k < 1000000) (ha : acc.length < 1000000) (hd : Sm d) (hs : Sb h) :
    rowF (encB ps) (.tuple [.int (k : Nat), d]) acc = if goesD h ps d = true then M.pure (.nx (acc ++ [encH (step h d)])) else M.raise ⟨"BadRows", [("at", .int (k : Nat))]⟩ := by
  have e1 : (M.bind (M.opt (dNeg (.int 1))) fun j => M.opt (dItem (.list acc) j)) = M.pure (encH h) := by
    show M.opt (dItem (.list acc) (.int (-1))) = _
    rw [last_at hl]
    rfl
  have e2 : mCmp dGe (M.pure (.int (k : Nat))) (M.pure (.int 1000000)) = M.pure false := by
    have : ¬ (1000000 : Int) ≤ (k : Nat) := by omega
    simp [dCmp, this]
  unfold rowF
  simp only [bnd2, M.opt_some, M.pure_bind]
  rw [e1, e2]
  simp only [mCons_pure, callP_3, m_goes h ps d hd, M.pur_pure, mTo_pure, mNot_pure, mOr_false, mIfx_pure]
  cases hg : goesD h ps d with
  | false => rfl
  | true =>
    obtain ⟨u, v, g, rfl, e⟩ := goesD_int hg
    simp [m_behind e hs, step, dApp, ha]
theorem halls_loop {ps : List Int} : ∀ {rows : List D} {h : List (List Int)} {k : Nat} {acc : List D}, acc.getLast? = some (encH h) → k + rows.length ≤ 1000000 → acc.length + rows.length ≤ 1000000 → (∀ d ∈ rows, Sm d) → Sb h →
    (match fb ps h rows with
      | none => ∃ l, (mFor (rowF (encB ps)) (enumF k rows) acc : M (Out (List D) Unit)) = M.pure (.nx l)
      | some i => (mFor (rowF (encB ps)) (enumF k rows) acc : M (Out (List D) Unit)) = M.raise ⟨"BadRows", [("at", .int ((k + i : Nat) : Int))]⟩)
  | [], h, k, acc, _, _, _, _, _ => ⟨acc, rfl⟩
  | d :: r, h, k, acc, hl, hk, ha, hd, hs => by
    simp only [List.length_cons] at hk ha
    have e := rowF_eq (ps := ps) (k := k) hl (by omega) (by omega) (hd d (by simp)) hs
    unfold fb
    cases hg : goesD h ps d with
    | false =>
      rw [hg, if_neg (by decide)] at e
      rw [if_neg (by decide)]
      show M.bind (rowF (encB ps) (.tuple [.int (k : Nat), d]) acc) _ = _
      rw [e]
      rfl
    | true =>
      rw [hg, if_pos rfl] at e
      rw [if_pos rfl]
      obtain ⟨u, v, g, rfl, eg⟩ := goesD_int hg
      have ih := halls_loop (ps := ps) (rows := r) (h := doneT h u v g) (k := k + 1) (acc := acc ++ [encH (doneT h u v g)]) (by simp) (by omega) (by simp; omega) (fun d hd' => hd d (List.mem_cons_of_mem _ hd')) (step_sb eg hs)
      show (match (fb ps (doneT h u v g) r).map (· + 1) with | none => _ | some i => _)
      have e' : (mFor (rowF (encB ps)) (enumF k (PyData.tuple [.int u, .int v, .int g] :: r)) acc : M (Out (List D) Unit)) = mFor (rowF (encB ps)) (enumF (k + 1) r) (acc ++ [encH (doneT h u v g)]) := mFor_cons e
      cases q : fb ps (doneT h u v g) r with
      | none =>
        rw [q] at ih
        obtain ⟨l, ih⟩ := ih
        exact ⟨l, e'.trans ih⟩
      | some i =>
        rw [q] at ih
        show _ = _
        rw [e', ih]
        have : k + 1 + i = k + (i + 1) := by omega
        rw [this]
end Law
end
section
set_option Elab.async false
set_option linter.all false
set_option maxRecDepth 100000
set_option maxHeartbeats 400000
namespace Law
open PySem PySem.Spec PyProof.Rows L2 Sim
/-! ### halls and players, typed -/
def BookT (n : Nat) (b : List Int) : Prop := b.length ≤ 16 ∧ b.Pairwise (· ≤ ·) ∧ ∀ c ∈ b, 0 ≤ c ∧ c < (n : Int)
def HallT (h : List (List Int)) : Prop := 1 ≤ h.length ∧ h.length ≤ 12 ∧ ∀ b ∈ h, BookT h.length b
def PlayT (n : Nat) (ps : List Int) : Prop := ps.Pairwise (· < ·) ∧ ∀ p ∈ ps, 0 ≤ p ∧ p < (n : Int)
theorem stepB_cons2 (r : Int → Int → Bool) (a b : Int) (l : List D) : stepB r (.int a :: .int b :: l) = (r a b && stepB r (.int b :: l)) := rfl
theorem stepB_pw {r : Int → Int → Bool} (tr : ∀ a b c, r a b = true → r b c = true → r a c = true) : ∀ l : List Int, stepB r (l.map PyData.int) = true ↔ l.Pairwise fun a b => r a b = true
  | [] => by simp [stepB, zipD]
  | [a] => by simp [stepB, zipD]
  | a :: b :: l => by
    have ih := stepB_pw tr (b :: l)
    rw [List.map_cons, List.map_cons, stepB_cons2, Bool.and_eq_true, ← List.map_cons, ih, List.pairwise_cons (a := a)]
    constructor
    · rintro ⟨h1, h2⟩
      refine ⟨fun x hx => ?_, h2⟩
      rcases List.mem_cons.mp hx with rfl | hx
      · exact h1
      · exact tr _ _ _ h1 (List.rel_of_pairwise_cons h2 hx)
    · rintro ⟨h1, h2⟩
      exact ⟨h1 b (by simp), h2⟩
theorem encB_inj {a b : List Int} (h : encB a = encB b) : a = b := by
  have h' : a.map PyData.int = b.map PyData.int := by simpa [encB] using h
  have := congrArg intsOf h'
  simpa using this
theorem bagB_iff {n : Int} {d : D} : bagB n d = true ↔ ∃ b, d = encB b ∧ b.Pairwise (· ≤ ·) ∧ ∀ c ∈ b, 0 ≤ c ∧ c < n := by
  constructor
  · intro h
    obtain ⟨l, rfl, hi⟩ := bagB_tup h
    have e : ∃ b : List Int, l = b.map PyData.int := by
      clear h
      induction l with
      | nil => exact ⟨[], rfl⟩
      | cons a r ih =>
        obtain ⟨i, e, _⟩ := hi a (by simp)
        obtain ⟨b, e'⟩ := ih fun x hx => hi x (List.mem_cons_of_mem _ hx)
        exact ⟨i :: b, by rw [e, e']; rfl⟩
    obtain ⟨b, rfl⟩ := e
    simp only [bagB, Bool.and_eq_true] at h
    refine ⟨b, rfl, ?_, fun c hc => ?_⟩
    · have := (stepB_pw (r := fun a b => decide (a ≤ b)) (fun a b c => by simp; omega) b).mp h.2
      exact this.imp (by simp)
    · obtain ⟨i, e, h1, h2⟩ := hi (.int c) (List.mem_map_of_mem hc)
      cases e
      exact ⟨h1, by omega⟩
  · rintro ⟨b, rfl, h1, h2⟩
    simp only [encB, bagB, Bool.and_eq_true, List.all_eq_true]
    refine ⟨fun x hx => ?_, (stepB_pw (r := fun a b => decide (a ≤ b)) (fun a b c => by simp; omega) b).mpr (h1.imp (by simp))⟩
    obtain ⟨c, hc, rfl⟩ := List.mem_map.mp hx
    have := h2 c hc
    simp [within]
    omega
theorem riseB_iff {n : Nat} {d : D} : riseB n d = true ↔ ∃ ps, d = encB ps ∧ PlayT n ps := by
  unfold riseB
  rw [Bool.and_eq_true, bagB_iff]
  constructor
  · rintro ⟨⟨b, rfl, h1, h2⟩, h3⟩
    exact ⟨b, rfl, ((stepB_pw (r := fun a b => decide (a < b)) (fun a b c => by simp; omega) b).mp h3).imp (by simp), h2⟩
  · rintro ⟨b, rfl, h1, h2⟩
    exact ⟨⟨b, rfl, h1.imp (by omega), h2⟩, (stepB_pw (r := fun a b => decide (a < b)) (fun a b c => by simp; omega) b).mpr (h1.imp (by simp))⟩
theorem riseB_false {n : Nat} {d : D} (h : ∀ ps, d = encB ps → ¬ PlayT n ps) : riseB n d = false := by
  cases e : riseB n d with
  | false => rfl
  | true =>
    obtain ⟨ps, e1, e2⟩ := riseB_iff.mp e
    exact absurd e2 (h ps e1)
theorem bookB_iff {n : Nat} {d : D} : bookB n d = true ↔ ∃ b, d = encB b ∧ BookT n b := by
  unfold bookB
  rw [Bool.and_eq_true, bagB_iff]
  constructor
  · rintro ⟨⟨b, rfl, h1, h2⟩, h3⟩
    exact ⟨b, rfl, by simpa [encB] using h3, h1, h2⟩
  · rintro ⟨b, rfl, h0, h1, h2⟩
    exact ⟨⟨b, rfl, h1, h2⟩, by simpa [encB] using h0⟩
theorem hallB_iff {d : D} : hallB d = true ↔ ∃ h, d = encH h ∧ HallT h := by
  constructor
  · intro h
    cases d <;> simp [hallB] at h
    rename_i l
    have e : ∃ b : List (List Int), l = b.map encB ∧ ∀ x ∈ b, BookT l.length x := by
      obtain ⟨h0, h⟩ := h
      clear h0
      generalize l.length = n at h
      induction l with
      | nil => exact ⟨[], rfl, by simp⟩
      | cons a r ih =>
        obtain ⟨b, rfl, hb⟩ := bookB_iff.mp (h a (by simp))
        obtain ⟨bs, e, hs⟩ := ih fun x hx => h x (List.mem_cons_of_mem _ hx)
        refine ⟨b :: bs, by rw [e]; rfl, fun x hx => ?_⟩
        rcases List.mem_cons.mp hx with rfl | hx
        · exact hb
        · exact hs x hx
    obtain ⟨b, rfl, hb⟩ := e
    simp only [List.length_map] at h hb
    exact ⟨b, rfl, h.1.1, h.1.2, hb⟩
  · rintro ⟨h, rfl, h1, h2, h3⟩
    simp [encH, hallB]
    exact ⟨⟨h1, h2⟩, fun b hb => bookB_iff.mpr ⟨b, rfl, h3 b hb⟩⟩
theorem lenD_encH (h : List (List Int)) : lenD (encH h) = (h.length : Nat) := by simp [encH, lenD]
theorem sm_encB {b : List Int} (h : b.length ≤ 1000000) : Sm (encB b) := fun l e => by
  cases e
  simpa using h
theorem sm2_encH {h : List (List Int)} (hh : HallT h) : Sm2 (encH h) := fun l e => by
  cases e
  refine ⟨by have := hh.2.1; simp; omega, fun x hx => ?_⟩
  obtain ⟨b, hb, rfl⟩ := List.mem_map.mp hx
  exact sm_encB (by have := (hh.2.2 b hb).1; omega)
theorem pw_bound : ∀ {l : List Int} {lo n : Int}, l.Pairwise (· < ·) → (∀ p ∈ l, lo ≤ p ∧ p < n) → lo + l.length ≤ max lo n
  | [], lo, n, _, _ => by simp; omega
  | a :: l, lo, n, h, k => by
    have ha := k a (by simp)
    have := pw_bound (l := l) (lo := a + 1) (n := n) (List.Pairwise.of_cons h) fun p hp => by
      have := List.rel_of_pairwise_cons h hp
      have := k p (List.mem_cons_of_mem _ hp)
      omega
    simp only [List.length_cons]
    omega
theorem PlayT.len {n : Nat} {ps : List Int} (h : PlayT n ps) : ps.length ≤ n := by
  have := pw_bound h.1 h.2
  omega
theorem HallT.sb {h : List (List Int)} (hh : HallT h) : ∀ b ∈ h, b.length ≤ 1000 := fun b hb => by
  have := (hh.2.2 b hb).1
  omega
theorem check_players_ok {h : List (List Int)} {ps : List Int} (hh : HallT h) (hp : PlayT h.length ps) : M_check_players [encH h, encB ps] = M.pure .none := by
  have := hp.len
  have := hh.2.1
  rw [m_check_players _ _ (sm2_encH hh) (sm_encB (by omega)), hallB_iff.mpr ⟨h, rfl, hh⟩, lenD_encH, riseB_iff.mpr ⟨ps, rfl, hp⟩]
  rfl
end Law
end
section
set_option Elab.async false
set_option linter.all false
set_option maxRecDepth 100000
set_option maxHeartbeats 400000
namespace Law
open PySem PySem.Spec PyProof.Rows L2 Sim
/-! ### draws -/
section
variable {a b c d e : D}
@[simp] theorem h5_0 : dItem (.list [a, b, c, d, e]) (.int 0) = some a := rfl
@[simp] theorem h5_1 : dItem (.list [a, b, c, d, e]) (.int 1) = some b := rfl
@[simp] theorem h5_2 : dItem (.list [a, b, c, d, e]) (.int 2) = some c := rfl
@[simp] theorem h5_3 : dItem (.list [a, b, c, d, e]) (.int 3) = some d := rfl
@[simp] theorem h5_4 : dItem (.list [a, b, c, d, e]) (.int 4) = some e := rfl
@[simp] theorem p5_1 (x : D) : dPut [a, b, c, d, e] (.int 1) x = some [a, x, c, d, e] := rfl
@[simp] theorem p5_2 (x : D) : dPut [a, b, c, d, e] (.int 2) x = some [a, b, x, d, e] := rfl
@[simp] theorem p5_3 (x : D) : dPut [a, b, c, d, e] (.int 3) x = some [a, b, c, x, e] := rfl
@[simp] theorem p5_4 (x : D) : dPut [a, b, c, d, e] (.int 4) x = some [a, b, c, d, x] := rfl
end
theorem dLen_list (l : List D) : dLen [.list l] = some (.int (l.length : Nat)) := rfl
theorem dLen_tup (l : List D) : dLen [.tuple l] = some (.int (l.length : Nat)) := rfl
theorem dInt_int (i : Int) : dInt [.int i] = some (.int i) := rfl
theorem dAdd_int (i j : Int) : dAdd (.int i) (.int j) = some (.int (i + j)) := rfl
theorem dSub_int (i j : Int) : dSub (.int i) (.int j) = some (.int (i - j)) := rfl
theorem dCmp_int (p : Int → Int → Bool) (i j : Int) : dCmp p (.int i) (.int j) = some (p i j) := rfl
theorem get_app {β : Type} (f : List D → M β) (s : List D) : M.bind mGet f s = f s s := rfl
theorem set_app {β : Type} (s' : List D) (f : Unit → M β) (s : List D) : M.bind (mSet s') f s = f () s' := rfl
theorem pure_app {α : Type} (a : α) (s : List D) : M.pure a s = .ok (a, s) := rfl
theorem mul_small (i j : Int) (h : -(2 ^ 64) < j ∧ j < 2 ^ 64) : dMul (.int i) (.int j) = some (.int (i * j)) := if_pos (.inr h)
theorem mul_small' (i j : Int) (h : -(2 ^ 64) < i ∧ i < 2 ^ 64) : dMul (.int i) (.int j) = some (.int (i * j)) := if_pos (.inl h)
theorem mod_pos (i j : Int) (h : 0 < j) : dMod (.int i) (.int j) = some (.int (i % j)) := if_pos h
theorem fdiv_pos (i j : Int) (h : 0 < j ∧ j < 1073741824) : dFdiv (.int i) (.int j) = some (.int (i / j)) := if_pos h
theorem pow_10_18 : dPow (.int 10) (.int 18) = some (.int 1000000000000000000) := rfl
theorem t_draw {many : Int} (h0 : 0 < many) (h1 : many < 1073741824) : Tri (M__law_draw [.int many]) fun d => ∃ i : Int, d = .int i ∧ 0 ≤ i ∧ i < many := by
  show Tri (retD (B__law_draw (.int many))) _
  refine .retD ?_
  unfold B__law_draw
  have second : Tri (mIfx (γ := Unit) (α := Unit) (mCmp dGt (mIxT (M.pure (.int 2))) (M.pure (.int 0))) (M.bind (mBin dMod (mB dInt (mCons (mIxT (M.pure (.int 2))) (M.pure []))) (M.pure (.int many))) fun v_digit => (mStoreT (mBin dFdiv (mIxT (M.pure (.int 2))) (M.pure (.int many))) (M.pure (.int 2)) (mRet (M.pure v_digit))))
   (mStoreT (mBin dAdd (mIxT (M.pure (.int 4))) (M.pure (.int 1))) (M.pure (.int 4)) (M.bind (mBin dMod (mB dInt (mCons (mBin dMul (mB dInt (mCons (mBin dAdd (mIxT (M.pure (.int 3))) (mBin dMul (M.pure (.int 7919)) (mIxT (M.pure (.int 4))))) (M.pure []))) (M.pure (.int 48271))) (M.pure []))) (M.pure (.int 2147483647))) fun v_number => (M.bind (mBin dMod (mB dInt (mCons (mBin dMul (M.pure v_number) (mBin dAdd (mBin dFdiv (M.pure v_number) (M.pure (.int 1009))) (M.pure (.int 69621)))) (M.pure []))) (M.pure (.int 2147483647))) fun v_number => (M.bind (mBin dMod (mB dInt (mCons (mBin dMul (M.pure v_number) (mBin dAdd (mBin dFdiv (M.pure v_number) (M.pure (.int 2003))) (M.pure (.int 40014)))) (M.pure []))) (M.pure (.int 2147483563))) fun v_number => (mRet (mBin dMod (mB dInt (mCons (mBin dFdiv (M.pure v_number) (M.pure (.int 16))) (M.pure []))) (M.pure (.int many)))))))))
    fun o => ∃ d, o = .ret d ∧ ∃ i : Int, d = .int i ∧ 0 ≤ i ∧ i < many := by
    rintro s ⟨cells, i, z, seed, cnt, rfl, hc, hi, hz, hl⟩
    simp only [mCons, mB, mBB, mBL, mSeq, mBin, mBinL, mCmp, mChain, mOfB, mOfL, mTo, mIsI, mIsI2, mNot, mAnd, mOr, mIf, mIfx, mIfj, mRet, mRetL, mDo, mUnp, mSl, mSlL, mEnd, mApp, mExt, mRem, mStore, mRaise1, mPar, mParLL, mRng1, mRng2, mTRng, mLRng, mIxT, mStoreT, mDict1, mApp2, mPut2, mAppPop, M.bind_assoc, M.pure_bind, M.opt_some, M.raise_bind, callP_bind, callL_bind, callS_bind, callSL_bind, mForB_bind, mCompB_bind, mCompBL_bind, callP_0, callP_1, callP_2, callP_3, callP_4, callP_5, callP_6, callL_0, callL_1, callL_2, callL_3, callL_4, callL_5, callL_6, callS_0, callS_1, callS_2, callS_3, callS_4, callS_5, callS_6, callSL_0, callSL_1, callSL_2, callSL_3, callSL_4, M.pur_pure, M.pur_raise, M.nox_pure, retD_bind, retD_ret, retD_nx, retD_raise, retLst_bind, retLst_retL, retLst_raise, exits_bind, exits_ret, exits_retL, exits_brk, exits_cnt, exits_raise, andThen_bind, andThen_nx, andThen_ret, andThen_retL, andThen_brk, andThen_cnt, andThen_raise, bnd2, bnd3, bnd4, bndL2, if_true, if_false, Bool.false_eq_true, Bool.not_true, Bool.not_false, reduceIte]
    simp only [get_app, h5_2, M.opt_some, M.pure_bind, dCmp]
    by_cases hz0 : 0 < z
    · simp only [hz0, decide_true, if_true, mod_pos _ _ h0, fdiv_pos _ _ ⟨h0, h1⟩, dInt_int, h5_2, M.opt_some, M.pure_bind, get_app, set_app, p5_2, pure_app]
      exact ⟨_, _, rfl, ⟨cells, i, z / many, seed, cnt, rfl, hc, hi, Int.ediv_nonneg hz (by omega), hl⟩, _, rfl, _, rfl, Int.emod_nonneg _ (by omega), Int.emod_lt_of_pos _ h0⟩
    · simp only [hz0, decide_false, if_false, Bool.false_eq_true, dInt_int, h5_4, h5_3, p5_4, M.opt_some, M.pure_bind, get_app, set_app, dAdd_int, mul_small' 7919 _ (by decide), mul_small _ 48271 (by decide), mod_pos _ 2147483647 (by decide), mod_pos _ 2147483563 (by decide), fdiv_pos _ 1009 (by decide), fdiv_pos _ 2003 (by decide), fdiv_pos _ 16 (by decide), mod_pos _ _ h0]
      have sm : ∀ x : Int, -(2 ^ 64) < x % 2147483647 ∧ x % 2147483647 < 2 ^ 64 := fun x => by
        have := Int.emod_nonneg x (b := 2147483647) (by decide)
        have := Int.emod_lt_of_pos x (b := 2147483647) (by decide)
        omega
      simp only [mul_small' _ _ (sm _), dInt_int, dAdd_int, M.opt_some, M.pure_bind, mod_pos _ 2147483647 (by decide), mod_pos _ 2147483563 (by decide), fdiv_pos _ 2003 (by decide), fdiv_pos _ 16 (by decide), mod_pos _ _ h0, pure_app]
      exact ⟨_, _, rfl, ⟨cells, i, z, seed, cnt + 1, rfl, hc, hi, hz, hl⟩, _, rfl, _, rfl, Int.emod_nonneg _ (by omega), Int.emod_lt_of_pos _ h0⟩
  have first : Tri (M.bind (mAnd (mCmp dEq (mIxT (M.pure (.int 2))) (M.pure (.int 0))) (mCmp dLt (mIxT (M.pure (.int 1))) (mB dLen (mCons (mIxT (M.pure (.int 0))) (M.pure []))))) fun t => if t then (M.bind (mBin dItem (mIxT (M.pure (.int 0))) (mIxT (M.pure (.int 1)))) fun v_cell => (mStoreT (mBin dAdd (mIxT (M.pure (.int 1))) (M.pure (.int 1))) (M.pure (.int 1)) (mStoreT (mBin dMod (mB dInt (mCons (mBin dAdd (mBin dAdd (mBin dMul (mIxT (M.pure (.int 3))) (M.pure (.int 69621))) (mBin dMul (M.pure v_cell) (M.pure (.int 40692)))) (M.pure (.int 37))) (M.pure []))) (M.pure (.int 2147483629))) (M.pure (.int 3)) (mIfj (γ := Unit) (α := Unit) (δ := Unit) (mCmp dGe (M.pure v_cell) (mBin dPow (M.pure (.int 10)) (M.pure (.int 18)))) (mStoreT (M.pure v_cell) (M.pure (.int 2)) (M.pure (.nx ()))) (M.pure (.nx ())) (fun _ =>
   (M.pure (.nx ()))))))) else (M.pure (.nx ()))) fun o => ∃ x, o = .nx x ∧ True := by
    rintro s ⟨cells, i, z, seed, cnt, rfl, hc, hi, hz, hl⟩
    simp only [mCons, mB, mBB, mBL, mSeq, mBin, mBinL, mCmp, mChain, mOfB, mOfL, mTo, mIsI, mIsI2, mNot, mAnd, mOr, mIf, mIfx, mIfj, mRet, mRetL, mDo, mUnp, mSl, mSlL, mEnd, mApp, mExt, mRem, mStore, mRaise1, mPar, mParLL, mRng1, mRng2, mTRng, mLRng, mIxT, mStoreT, mDict1, mApp2, mPut2, mAppPop, M.bind_assoc, M.pure_bind, M.opt_some, M.raise_bind, callP_bind, callL_bind, callS_bind, callSL_bind, mForB_bind, mCompB_bind, mCompBL_bind, callP_0, callP_1, callP_2, callP_3, callP_4, callP_5, callP_6, callL_0, callL_1, callL_2, callL_3, callL_4, callL_5, callL_6, callS_0, callS_1, callS_2, callS_3, callS_4, callS_5, callS_6, callSL_0, callSL_1, callSL_2, callSL_3, callSL_4, M.pur_pure, M.pur_raise, M.nox_pure, retD_bind, retD_ret, retD_nx, retD_raise, retLst_bind, retLst_retL, retLst_raise, exits_bind, exits_ret, exits_retL, exits_brk, exits_cnt, exits_raise, andThen_bind, andThen_nx, andThen_ret, andThen_retL, andThen_brk, andThen_cnt, andThen_raise, bnd2, bnd3, bnd4, bndL2, if_true, if_false, Bool.false_eq_true, Bool.not_true, Bool.not_false, reduceIte]
    simp only [get_app, h5_0, h5_1, h5_2, M.opt_some, M.pure_bind, M.bind_assoc, dEq_int]
    by_cases hz0 : z = 0
    · by_cases hlt : i < (cells.length : Nat)
      · have ei : dItem (.list (cells.map .int)) (.int i) = some (.int (cells.getD i.toNat 0)) := by
          show L2.atI _ _ = _
          unfold L2.atI ixN
          rw [if_pos hi, if_pos (by simpa using hlt)]
          have : i.toNat < cells.length := by omega
          simp [List.getD_eq_getElem?_getD, this]
        have hc0 : 0 ≤ cells.getD i.toNat 0 := by
          have : i.toNat < cells.length := by omega
          rw [List.getD_eq_getElem?_getD, List.getElem?_eq_getElem this]
          exact hc _ (List.getElem_mem _)
        simp only [hz0, decide_true, if_true, hlt, M.bind_assoc, dLen_list, dCmp_int, List.length_map, get_app, set_app, h5_0, h5_1, h5_3, M.opt_some, M.pure_bind, ei, dAdd_int, p5_1, p5_3, p5_2, mul_small _ 69621 (by decide), mul_small _ 40692 (by decide), dInt_int, mod_pos _ 2147483629 (by decide), pow_10_18]
        by_cases hb : (1000000000000000000 : Int) ≤ cells.getD i.toNat 0
        · simp only [hb, decide_true, if_true, get_app, set_app, p5_2, M.opt_some, M.pure_bind, andThen_bind, andThen_nx, pure_app]
          exact ⟨_, _, rfl, ⟨cells, i + 1, _, _, cnt, rfl, hc, by omega, hc0, hl⟩, _, rfl, trivial⟩
        · simp only [hb, decide_false, if_false, Bool.false_eq_true, andThen_nx, pure_app]
          exact ⟨_, _, rfl, ⟨cells, i + 1, _, _, cnt, rfl, hc, by omega, by omega, hl⟩, _, rfl, trivial⟩
      · simp only [hz0, decide_true, if_true, hlt, M.bind_assoc, dLen_list, dCmp_int, List.length_map, get_app, h5_0, h5_1, M.opt_some, decide_false, Bool.false_eq_true, if_false, pure_app, M.pure_bind]
        exact ⟨_, _, rfl, ⟨cells, i, _, seed, cnt, rfl, hc, hi, by omega, hl⟩, _, rfl, trivial⟩
    · simp only [hz0, decide_false, Bool.false_eq_true, if_false, pure_app, M.pure_bind]
      exact ⟨_, _, rfl, ⟨cells, i, z, seed, cnt, rfl, hc, hi, hz, hl⟩, _, rfl, trivial⟩
  have e : ∀ (γ α δ : Type) (mc : M Bool) (ma mb : M (Out δ α)) (k : δ → M (Out γ α)), mIfj mc ma mb k = andThen (M.bind mc fun t => if t then ma else mb) k := fun _ _ _ mc ma mb k => (andThen_bind k mc _).symm
  rw [e]
  exact first.join fun _ _ => second
theorem t_any {l : List D} {Q : D → Prop} (h : 0 < l.length) (hl : l.length ≤ 1000000) (q : ∀ x ∈ l, Q x) : Tri (M__law_any [.list l]) Q := by
  show Tri (retD (B__law_any (.list l))) _
  refine .retD ?_
  unfold B__law_any
  simp only [mCons, mB, mBB, mBL, mSeq, mBin, mBinL, mCmp, mChain, mOfB, mOfL, mTo, mIsI, mIsI2, mNot, mAnd, mOr, mIf, mIfx, mIfj, mRet, mRetL, mDo, mUnp, mSl, mSlL, mEnd, mApp, mExt, mRem, mStore, mRaise1, mPar, mParLL, mRng1, mRng2, mTRng, mLRng, mIxT, mStoreT, mDict1, mApp2, mPut2, mAppPop, M.bind_assoc, M.pure_bind, M.opt_some, M.raise_bind, callP_bind, callL_bind, callS_bind, callSL_bind, mForB_bind, mCompB_bind, mCompBL_bind, callP_0, callP_1, callP_2, callP_3, callP_4, callP_5, callP_6, callL_0, callL_1, callL_2, callL_3, callL_4, callL_5, callL_6, callS_0, callS_1, callS_2, callS_3, callS_4, callS_5, callS_6, callSL_0, callSL_1, callSL_2, callSL_3, callSL_4, M.pur_pure, M.pur_raise, M.nox_pure, retD_bind, retD_ret, retD_nx, retD_raise, retLst_bind, retLst_retL, retLst_raise, exits_bind, exits_ret, exits_retL, exits_brk, exits_cnt, exits_raise, andThen_bind, andThen_nx, andThen_ret, andThen_retL, andThen_brk, andThen_cnt, andThen_raise, bnd2, bnd3, bnd4, bndL2, if_true, if_false, Bool.false_eq_true, Bool.not_true, Bool.not_false, reduceIte]
  simp only [dLen, M.opt_some, M.pure_bind, callS_1]
  refine (t_draw (many := (l.length : Nat)) (by omega) (by omega)).noxB fun d hd => ?_
  obtain ⟨i, rfl, i0, i1⟩ := hd
  have hlt : i.toNat < l.length := by omega
  have : dItem (.list l) (.int i) = some l[i.toNat] := by
    show L2.atI _ _ = _
    unfold L2.atI ixN
    rw [if_pos i0, if_pos i1]
    simp [hlt]
  rw [this]
  exact .pure ⟨_, rfl, q _ (List.getElem_mem _)⟩
theorem t_anyT {l : List D} {Q : D → Prop} (h : 0 < l.length) (hl : l.length ≤ 1000000) (q : ∀ x ∈ l, Q x) : Tri (M__law_any [.tuple l]) Q := by
  show Tri (retD (B__law_any (.tuple l))) _
  refine .retD ?_
  unfold B__law_any
  simp only [mCons, mB, mBB, mBL, mSeq, mBin, mBinL, mCmp, mChain, mOfB, mOfL, mTo, mIsI, mIsI2, mNot, mAnd, mOr, mIf, mIfx, mIfj, mRet, mRetL, mDo, mUnp, mSl, mSlL, mEnd, mApp, mExt, mRem, mStore, mRaise1, mPar, mParLL, mRng1, mRng2, mTRng, mLRng, mIxT, mStoreT, mDict1, mApp2, mPut2, mAppPop, M.bind_assoc, M.pure_bind, M.opt_some, M.raise_bind, callP_bind, callL_bind, callS_bind, callSL_bind, mForB_bind, mCompB_bind, mCompBL_bind, callP_0, callP_1, callP_2, callP_3, callP_4, callP_5, callP_6, callL_0, callL_1, callL_2, callL_3, callL_4, callL_5, callL_6, callS_0, callS_1, callS_2, callS_3, callS_4, callS_5, callS_6, callSL_0, callSL_1, callSL_2, callSL_3, callSL_4, M.pur_pure, M.pur_raise, M.nox_pure, retD_bind, retD_ret, retD_nx, retD_raise, retLst_bind, retLst_retL, retLst_raise, exits_bind, exits_ret, exits_retL, exits_brk, exits_cnt, exits_raise, andThen_bind, andThen_nx, andThen_ret, andThen_retL, andThen_brk, andThen_cnt, andThen_raise, bnd2, bnd3, bnd4, bndL2, if_true, if_false, Bool.false_eq_true, Bool.not_true, Bool.not_false, reduceIte]
  simp only [dLen, M.opt_some, M.pure_bind, callS_1]
  refine (t_draw (many := (l.length : Nat)) (by omega) (by omega)).noxB fun d hd => ?_
  obtain ⟨i, rfl, i0, i1⟩ := hd
  have hlt : i.toNat < l.length := by omega
  have : dItem (.tuple l) (.int i) = some l[i.toNat] := by
    show L2.atI _ _ = _
    unfold L2.atI ixN
    rw [if_pos i0, if_pos i1]
    simp [hlt]
  rw [this]
  exact .pure ⟨_, rfl, q _ (List.getElem_mem _)⟩
end Law
end
section
set_option Elab.async false
set_option linter.all false
set_option maxRecDepth 100000
set_option maxHeartbeats 400000
namespace Law
open PySem PySem.Spec PyProof.Rows L2 Sim
theorem Tri.compSub {ft : D → M Bool} : ∀ {l acc : List D}, (∀ d ∈ l, Tri (ft d) fun _ => True) → Tri (mComp some ft (fun x => M.pure x) l acc) fun r => ∃ r', r = acc ++ r' ∧ r'.Sublist l
  | [], acc, _ => .pure ⟨[], by simp, .slnil⟩
  | d :: l, acc, k => by
    have ht : Tri (mTurn some ft (fun x => M.pure x) d) fun o => o = some d ∨ o = none :=
      Tri.nox (Tri.optB rfl ((k d (by simp)).bind fun b _ => by
        cases b with
        | true => exact .pure (.inl rfl)
        | false => exact .pure (.inr rfl)))
    refine ht.bind fun o ho => ?_
    refine (Tri.compSub (l := l) fun x hx => k x (List.mem_cons_of_mem _ hx)).mono fun r ⟨r', e, s⟩ => ?_
    rcases ho with rfl | rfl
    · exact ⟨d :: r', by rw [e]; simp, s.cons₂ d⟩
    · exact ⟨r', by rw [e]; simp, s.cons d⟩
theorem lim_ok {l : List D} (h : l.length ≤ 1000000) : lim l = M.pure l := if_pos h
theorem dLst_0 : dLst [] = some [] := rfl
theorem dTup_0 : dTup [] = some (.tuple []) := rfl
theorem dLst_1 (a : D) : dLst [a] = some [a] := rfl
theorem dTup_1 (a : D) : dTup [a] = some (.tuple [a]) := rfl
theorem dLst_2 (a b : D) : dLst [a, b] = some [a, b] := rfl
theorem dTup_2 (a b : D) : dTup [a, b] = some (.tuple [a, b]) := rfl
theorem dLst_3 (a b c : D) : dLst [a, b, c] = some [a, b, c] := rfl
theorem dTup_3 (a b c : D) : dTup [a, b, c] = some (.tuple [a, b, c]) := rfl
theorem dLst_4 (a b c d : D) : dLst [a, b, c, d] = some [a, b, c, d] := rfl
theorem dTup_4 (a b c d : D) : dTup [a, b, c, d] = some (.tuple [a, b, c, d]) := rfl
theorem dLst_5 (a b c d e : D) : dLst [a, b, c, d, e] = some [a, b, c, d, e] := rfl
theorem dTup_5 (a b c d e : D) : dTup [a, b, c, d, e] = some (.tuple [a, b, c, d, e]) := rfl
theorem dLst_6 (a b c d e f : D) : dLst [a, b, c, d, e, f] = some [a, b, c, d, e, f] := rfl
theorem dTup_6 (a b c d e f : D) : dTup [a, b, c, d, e, f] = some (.tuple [a, b, c, d, e, f]) := rfl
theorem dLst_7 (a b c d e f g : D) : dLst [a, b, c, d, e, f, g] = some [a, b, c, d, e, f, g] := rfl
theorem dTup_7 (a b c d e f g : D) : dTup [a, b, c, d, e, f, g] = some (.tuple [a, b, c, d, e, f, g]) := rfl
theorem dLst_8 (a b c d e f g h : D) : dLst [a, b, c, d, e, f, g, h] = some [a, b, c, d, e, f, g, h] := rfl
theorem dTup_8 (a b c d e f g h : D) : dTup [a, b, c, d, e, f, g, h] = some (.tuple [a, b, c, d, e, f, g, h]) := rfl
theorem dLst_9 (a b c d e f g h i : D) : dLst [a, b, c, d, e, f, g, h, i] = some [a, b, c, d, e, f, g, h, i] := rfl
theorem dTup_9 (a b c d e f g h i : D) : dTup [a, b, c, d, e, f, g, h, i] = some (.tuple [a, b, c, d, e, f, g, h, i]) := rfl
theorem dLst_10 (a b c d e f g h i j : D) : dLst [a, b, c, d, e, f, g, h, i, j] = some [a, b, c, d, e, f, g, h, i, j] := rfl
theorem dTup_10 (a b c d e f g h i j : D) : dTup [a, b, c, d, e, f, g, h, i, j] = some (.tuple [a, b, c, d, e, f, g, h, i, j]) := rfl
theorem dLst_11 (a b c d e f g h i j k : D) : dLst [a, b, c, d, e, f, g, h, i, j, k] = some [a, b, c, d, e, f, g, h, i, j, k] := rfl
theorem dTup_11 (a b c d e f g h i j k : D) : dTup [a, b, c, d, e, f, g, h, i, j, k] = some (.tuple [a, b, c, d, e, f, g, h, i, j, k]) := rfl
theorem dLst_12 (a b c d e f g h i j k l : D) : dLst [a, b, c, d, e, f, g, h, i, j, k, l] = some [a, b, c, d, e, f, g, h, i, j, k, l] := rfl
theorem dTup_12 (a b c d e f g h i j k l : D) : dTup [a, b, c, d, e, f, g, h, i, j, k, l] = some (.tuple [a, b, c, d, e, f, g, h, i, j, k, l]) := rfl
theorem dListOf_list (l : List D) : dListOf [.list l] = some l := rfl
theorem dListOf_tup (l : List D) : dListOf [.tuple l] = some l := rfl
theorem dTuple_list (l : List D) : dTuple [.list l] = some (.tuple l) := rfl
theorem dTuple_tup (l : List D) : dTuple [.tuple l] = some (.tuple l) := rfl
theorem dNeg_int (i : Int) : dNeg (.int i) = some (.int (-i)) := rfl
theorem dItems_list (l : List D) : dItems (.list l) = some l := rfl
theorem dItems_tup (l : List D) : dItems (.tuple l) = some l := rfl
theorem t_some {l : List D} {share : Int} (h0 : 0 < share) (h1 : share < 1073741824) (hl : l.length ≤ 1000000) : Tri (M__law_some [.list l, .int share]) fun d => ∃ r, d = .tuple r ∧ r.Sublist l := by
  show Tri (retD (B__law_some (.list l) (.int share))) _
  refine .retD ?_
  unfold B__law_some
  simp only [mCons, mB, mBB, mBL, mSeq, mBin, mBinL, mCmp, mChain, mOfB, mOfL, mTo, mIsI, mIsI2, mNot, mAnd, mOr, mIf, mIfx, mIfj, mRet, mRetL, mDo, mUnp, mSl, mSlL, mEnd, mApp, mExt, mRem, mStore, mRaise1, mPar, mParLL, mRng1, mRng2, mTRng, mLRng, mIxT, mStoreT, mDict1, mApp2, mPut2, mAppPop, M.bind_assoc, M.pure_bind, M.opt_some, M.raise_bind, callP_bind, callL_bind, callS_bind, callSL_bind, mForB_bind, mCompB_bind, mCompBL_bind, callP_0, callP_1, callP_2, callP_3, callP_4, callP_5, callP_6, callL_0, callL_1, callL_2, callL_3, callL_4, callL_5, callL_6, callS_0, callS_1, callS_2, callS_3, callS_4, callS_5, callS_6, callSL_0, callSL_1, callSL_2, callSL_3, callSL_4, M.pur_pure, M.pur_raise, M.nox_pure, retD_bind, retD_ret, retD_nx, retD_raise, retLst_bind, retLst_retL, retLst_raise, exits_bind, exits_ret, exits_retL, exits_brk, exits_cnt, exits_raise, andThen_bind, andThen_nx, andThen_ret, andThen_retL, andThen_brk, andThen_cnt, andThen_raise, bnd2, bnd3, bnd4, bndL2, if_true, if_false, Bool.false_eq_true, Bool.not_true, Bool.not_false, reduceIte]
  simp only [dItems_list, M.opt_some, M.pure_bind, M.bind_assoc, mCompB, lim_ok hl]
  refine (Tri.compSub (acc := []) (l := l) fun d _ => ?_).bind fun r ⟨r', e, s⟩ => ?_
  · refine (t_draw h0 h1).noxB fun x ⟨i, e, _⟩ => ?_
    subst e
    exact .pure trivial
  · subst e
    exact .pure ⟨_, rfl, _, rfl, s⟩
theorem Tri.whileI {α β : Type} {c : α → M Bool} {cb : α → Bool} {f : α → M (Out α α)} (I : α → Prop) (μ : α → Nat) (hc : ∀ a, I a → c a = M.pure (cb a)) (hf : ∀ a, I a → cb a = true → Tri (f a) fun o => ∃ a', (o = .nx a' ∨ o = .cnt a') ∧ I a' ∧ μ a' < μ a) :
    ∀ {F : Nat} {a : α}, μ a < F → I a → Tri (mWhile c f F a : M (Out α β)) fun o => ∃ a', o = .nx a' ∧ I a' ∧ cb a' = false
  | 0, a, h, _ => absurd h (by omega)
  | F + 1, a, h, hi => by
    rw [mWhile, hc a hi, M.pure_bind]
    cases e : cb a with
    | false => exact .pure ⟨a, rfl, hi, e⟩
    | true =>
      refine (hf a hi e).bind fun o ⟨a', eo, hi', hm⟩ => ?_
      have := Tri.whileI (β := β) I μ hc hf (F := F) (a := a') (by omega) hi'
      rcases eo with rfl | rfl <;> exact this
theorem fuel_big (n : Nat) (h : n ≤ 1000000) : n < fuel := by
  have : (1000000 : Nat) < fuel := by decide
  omega
theorem eraseIdx_perm : ∀ {l : List D} {i : Nat} (h : i < l.length), (l[i] :: l.eraseIdx i).Perm l
  | a :: r, 0, _ => .refl _
  | a :: r, i + 1, h => by
    have := eraseIdx_perm (l := r) (i := i) (by simpa using h)
    exact (List.Perm.swap _ _ _).trans (this.cons a)
theorem t_mixed {l : List D} (hl : l.length ≤ 1000) : Tri (M__law_mixed [.list l]) fun r => r.Perm l := by
  show Tri (retLst (B__law_mixed (.list l))) _
  refine .retLst ?_
  unfold B__law_mixed
  simp only [mCons, mB, mBB, mBL, mSeq, mBin, mBinL, mCmp, mChain, mOfB, mOfL, mTo, mIsI, mIsI2, mNot, mAnd, mOr, mIf, mIfx, mIfj, mRet, mRetL, mDo, mUnp, mSl, mSlL, mEnd, mApp, mExt, mRem, mStore, mRaise1, mPar, mParLL, mRng1, mRng2, mTRng, mLRng, mIxT, mStoreT, mDict1, mApp2, mPut2, mAppPop, M.bind_assoc, M.pure_bind, M.opt_some, M.raise_bind, callP_bind, callL_bind, callS_bind, callSL_bind, mForB_bind, mCompB_bind, mCompBL_bind, callP_0, callP_1, callP_2, callP_3, callP_4, callP_5, callP_6, callL_0, callL_1, callL_2, callL_3, callL_4, callL_5, callL_6, callS_0, callS_1, callS_2, callS_3, callS_4, callS_5, callS_6, callSL_0, callSL_1, callSL_2, callSL_3, callSL_4, M.pur_pure, M.pur_raise, M.nox_pure, retD_bind, retD_ret, retD_nx, retD_raise, retLst_bind, retLst_retL, retLst_raise, exits_bind, exits_ret, exits_retL, exits_brk, exits_cnt, exits_raise, andThen_bind, andThen_nx, andThen_ret, andThen_retL, andThen_brk, andThen_cnt, andThen_raise, bnd2, bnd3, bnd4, bndL2, if_true, if_false, Bool.false_eq_true, Bool.not_true, Bool.not_false, reduceIte]
  simp only [dListOf, dLst_some (ds := []) (by simp), M.opt_some, M.pure_bind]
  refine Tri.join (P := fun a : List D × List D => a.2 = [] ∧ (a.1 ++ a.2).Perm l) ((Tri.whileI (fun a : List D × List D => (a.1 ++ a.2).Perm l) (fun a => a.2.length) (cb := fun a => decide (0 < a.2.length)) (fun a _ => ?_) (fun a hi hb => ?_) (fuel_big _ (by simpa using (by omega : l.length ≤ 1000000))) (by simp)).mono fun o ⟨a, e, h1, h2⟩ => ⟨a, e, by simpa using h2, h1⟩) fun a ⟨e, p⟩ => .pure ⟨_, rfl, by simpa [e] using p⟩
  · simp [dCmp]
  · have hb' : 0 < a.2.length := by simpa using hb
    have hlen := hi.length_eq
    rw [List.length_append] at hlen
    refine (t_draw (many := (a.2.length : Nat)) (by omega) (by omega)).noxB fun d ⟨i, e, i0, i1⟩ => ?_
    subst e
    have hlt : i.toNat < a.2.length := by omega
    have e1 : dPopAt a.2 (.int i) = some (a.2[i.toNat], a.2.eraseIdx i.toNat) := by
      have : 0 ≤ i ∧ i < (a.2.length : Nat) ∧ a.2.length ≤ 1000000 := ⟨i0, i1, by omega⟩
      simp [dPopAt, this, hlt]
    have e2 : dApp a.1 a.2[i.toNat] = some (a.1 ++ [a.2[i.toNat]]) := if_pos (by omega)
    simp only [e1, M.opt_some, M.pure_bind, e2]
    refine .pure ⟨_, .inl rfl, ?_, by rw [List.length_eraseIdx_of_lt hlt]; omega⟩
    have : (a.2[i.toNat] :: a.2.eraseIdx i.toNat).Perm a.2 := eraseIdx_perm hlt
    rw [List.append_assoc]
    exact ((List.perm_append_left_iff a.1).mpr (by simpa using this)).trans hi
/-- all ints of a range -/
def RangeD (n : Nat) (d : D) : Prop := ∃ i : Int, d = .int i ∧ 0 ≤ i ∧ i < (n : Int)
theorem rngD_mem {lo : Int} {n : Nat} {d : D} (h : d ∈ rngD lo n) : ∃ i : Int, d = .int i ∧ lo ≤ i ∧ i < lo + (n : Int) := by
  obtain ⟨k, hk, rfl⟩ := List.mem_map.mp h
  have := List.mem_range.mp hk
  exact ⟨_, rfl, by omega, by omega⟩
theorem rngD_len (lo : Int) (n : Nat) : (rngD lo n).length = n := by simp [rngD]
theorem rng1_nat (n : Nat) (h : n ≤ 1000000) : dRng1 [.int (n : Nat)] = some (rngD 0 n) := by
  have : (-1000000 : Int) ≤ (n : Nat) ∧ ((n : Nat) : Int) ≤ 1000000 := by omega
  simp [dRng1, this]
theorem rng1_int {n : Int} (h0 : 0 ≤ n) (h : n ≤ 1000000) : dRng1 [.int n] = some (rngD 0 n.toNat) := by
  have : (-1000000 : Int) ≤ n ∧ n ≤ 1000000 := by omega
  simp [dRng1, this]
end Law
end
section
set_option Elab.async false
set_option linter.all false
set_option maxRecDepth 100000
set_option maxHeartbeats 400000
namespace Law
open PySem PySem.Spec PyProof.Rows L2 Sim
/-- books under way -/
def BooksB (n m : Nat) (bs : List (List D)) : Prop := bs.length = n ∧ ∀ b ∈ bs, b.length ≤ m ∧ ∀ x ∈ b, RangeD n x
theorem BooksB.mono {n m m' : Nat} {bs : List (List D)} (h : BooksB n m bs) (k : m ≤ m') : BooksB n m' bs := ⟨h.1, fun b hb => ⟨Nat.le_trans (h.2 b hb).1 k, (h.2 b hb).2⟩⟩
theorem ix2_ok {n : Nat} {i : Int} (h0 : 0 ≤ i) (h1 : i < (n : Int)) : ix2 n (.int i) = some i.toNat := by
  show ixN n i = _
  unfold ixN
  rw [if_pos h0, if_pos h1]
theorem app2_ok {n m : Nat} {bs : List (List D)} {i : Int} {x : D} (hb : BooksB n m bs) (hm : m < 1000) (h0 : 0 ≤ i) (h1 : i < (n : Int)) (hx : RangeD n x) : ∃ bs', app2 bs i.toNat x = some bs' ∧ BooksB n (m + 1) bs' := by
  have hl : i.toNat < bs.length := by rw [hb.1]; omega
  have e : bs[i.toNat]? = some bs[i.toNat] := List.getElem?_eq_getElem hl
  have hbb := hb.2 _ (List.getElem_mem hl)
  refine ⟨bs.set i.toNat (bs[i.toNat] ++ [x]), ?_, by rw [List.length_set]; exact hb.1, fun b hb' => ?_⟩
  · unfold app2
    rw [e]
    show (dApp bs[i.toNat] x).map _ = _
    unfold dApp
    rw [if_pos (by omega)]
    rfl
  · rcases List.mem_or_eq_of_mem_set hb' with z | z
    · exact ⟨by have := (hb.2 b z).1; omega, (hb.2 b z).2⟩
    · subst z
      refine ⟨by simp; omega, fun y hy => ?_⟩
      rcases List.mem_append.mp hy with z | z
      · exact hbb.2 y z
      · simp at z
        subst z
        exact hx
theorem mCompL_map {ι : Type} {bnd : D → Option ι} {fe : ι → M (List D)} {g : D → List D} : ∀ {l : List D} {acc : List (List D)}, (∀ d ∈ l, ∃ x, bnd d = some x ∧ fe x = M.pure (g d)) → mCompL bnd fe l acc = M.pure (acc ++ l.map g)
  | [], acc, _ => by simp [mCompL]
  | d :: l, acc, k => by
    obtain ⟨x, e, h⟩ := k d (by simp)
    have ht : mTurnL bnd fe d = M.pure (g d) := by
      unfold mTurnL
      rw [e]
      show M.nox (fe x) = _
      rw [h]
      rfl
    unfold mCompL
    rw [ht]
    show mCompL bnd fe l (acc ++ [g d]) = _
    rw [mCompL_map fun d hd => k d (List.mem_cons_of_mem _ hd)]
    simp
theorem mCompBL_map {ι : Type} {bnd : D → Option ι} {fe : ι → M (List D)} {g : D → List D} {l : List D} (hl : l.length ≤ 1000000) (k : ∀ d ∈ l, ∃ x, bnd d = some x ∧ fe x = M.pure (g d)) : mCompBL (M.pure l) bnd fe = M.pure (l.map g) := by
  unfold mCompBL
  rw [M.pure_bind, lim_ok hl, M.pure_bind, mCompL_map k]
  rfl
theorem rng2_ok {a b : Int} (h : (-1000000 ≤ a ∧ a ≤ 1000000) ∧ (-1000000 ≤ b ∧ b ≤ 1000000)) : dRng2 [.int a, .int b] = some (rngD a (b - a).toNat) := if_pos h
theorem rng1_ok {n : Int} (h : -1000000 ≤ n ∧ n ≤ 1000000) : dRng1 [.int n] = some (rngD 0 n.toNat) := if_pos h
theorem rngD_at {lo : Int} {n i : Nat} {d : D} (h : (rngD lo n)[i]? = some d) : d = .int (lo + (i : Nat)) ∧ i < n := by
  unfold rngD at h
  rw [List.getElem?_map, Option.map_eq_some_iff] at h
  obtain ⟨j, e, rfl⟩ := h
  rw [List.getElem?_eq_some_iff] at e
  obtain ⟨h1, h2⟩ := e
  simp at h1 h2
  subst h2
  exact ⟨rfl, h1⟩
theorem item_list {l : List D} {i : Int} (h0 : 0 ≤ i) (h1 : i < (l.length : Nat)) : ∃ d, dItem (.list l) (.int i) = some d ∧ d ∈ l := by
  have hlt : i.toNat < l.length := by omega
  refine ⟨l[i.toNat], ?_, List.getElem_mem _⟩
  show L2.atI _ _ = _
  unfold L2.atI ixN
  rw [if_pos h0, if_pos h1]
  simp [hlt]
/-- the book that is made of drawn cards -/
theorem rangeD_ints {n : Nat} : ∀ {b : List D}, (∀ x ∈ b, RangeD n x) → ∃ c : List Int, b = c.map .int ∧ ∀ x ∈ c, 0 ≤ x ∧ x < (n : Int)
  | [], _ => ⟨[], rfl, by simp⟩
  | d :: r, h => by
    obtain ⟨i, rfl, h0, h1⟩ := h d (by simp)
    obtain ⟨c, rfl, hc⟩ := rangeD_ints fun x hx => h x (List.mem_cons_of_mem _ hx)
    refine ⟨i :: c, rfl, fun x hx => ?_⟩
    rcases List.mem_cons.mp hx with rfl | hx
    · exact ⟨h0, h1⟩
    · exact hc x hx
theorem booksB_ints {n m : Nat} : ∀ {bs : List (List D)}, (∀ b ∈ bs, b.length ≤ m ∧ ∀ x ∈ b, RangeD n x) → ∃ cs : List (List Int), bs = cs.map (fun c => c.map .int) ∧ ∀ c ∈ cs, c.length ≤ m ∧ ∀ x ∈ c, 0 ≤ x ∧ x < (n : Int)
  | [], _ => ⟨[], rfl, by simp⟩
  | b :: r, h => by
    obtain ⟨c, rfl, hc⟩ := rangeD_ints (h b (by simp)).2
    obtain ⟨cs, rfl, hcs⟩ := booksB_ints fun x hx => h x (List.mem_cons_of_mem _ hx)
    refine ⟨c :: cs, rfl, fun x hx => ?_⟩
    rcases List.mem_cons.mp hx with rfl | hx
    · exact ⟨by have := (h _ (List.mem_cons_self)).1; simpa using this, hc⟩
    · exact hcs x hx
def finT (mc : Nat) (c : List Int) : List Int := srt (c.take mc)
theorem finT_book {n mc : Nat} {c : List Int} (hm : mc ≤ 16) (h : ∀ x ∈ c, 0 ≤ x ∧ x < (n : Int)) : BookT n (finT mc c) := by
  have p := srt_perm (c.take mc)
  refine ⟨?_, srt_sorted _, fun x hx => h x (List.mem_of_mem_take (p.mem_iff.mp hx))⟩
  unfold finT
  rw [p.length_eq, List.length_take]
  omega
theorem sublist_play {n : Nat} {r : List D} (h : r.Sublist (rngD 0 n)) : ∃ ps, r = ps.map .int ∧ PlayT n ps := by
  have hr : ∀ x ∈ r, RangeD n x := fun x hx => by
    obtain ⟨i, e, h0, h1⟩ := rngD_mem (h.mem hx)
    exact ⟨i, e, h0, by omega⟩
  obtain ⟨ps, rfl, hp⟩ := rangeD_ints hr
  refine ⟨ps, rfl, ?_, hp⟩
  have pw : (rngD 0 n).Pairwise fun a b => ∀ i j, a = .int i → b = .int j → i < j := by
    unfold rngD
    rw [List.pairwise_map]
    refine List.pairwise_lt_range.imp fun {a b} hab i j e1 e2 => ?_
    cases e1; cases e2
    omega
  have := pw.sublist h
  rw [List.pairwise_map] at this
  exact this.imp fun h => h _ _ rfl rfl
theorem int_toNat_len {n : Int} (h : 0 ≤ n) : ((n.toNat : Nat) : Int) = n := Int.toNat_of_nonneg h
theorem t_hall {mp mc : Int} (hp0 : 1 ≤ mp) (hp1 : mp ≤ 12) (hc0 : 1 ≤ mc) (hc1 : mc ≤ 16) : Tri (M__law_hall [.int mp, .int mc]) fun ds => ∃ h ps, ds = [encH h, encB ps] ∧ HallT h ∧ PlayT h.length ps := by
  show Tri (retLst (B__law_hall (.int mp) (.int mc))) _
  refine .retLst ?_
  unfold B__law_hall
  (try simp only [mCons, mB, mBB, mBL, mSeq, mBin, mBinL, mCmp, mChain, mOfB, mOfL, mTo, mIsI, mIsI2, mNot, mAnd, mOr, mIf, mIfx, mIfj, mRet, mRetL, mDo, mUnp, mSl, mSlL, mEnd, mApp, mExt, mRem, mStore, mRaise1, mPar, mParLL, mRng1, mRng2, mTRng, mLRng, mIxT, mStoreT, mDict1, mApp2, mPut2, mAppPop, M.bind_assoc, M.pure_bind, M.opt_some, M.raise_bind, callP_bind, callL_bind, callS_bind, callSL_bind, mForB_bind, mCompB_bind, mCompBL_bind, callP_0, callP_1, callP_2, callP_3, callP_4, callP_5, callP_6, callL_0, callL_1, callL_2, callL_3, callL_4, callL_5, callL_6, callS_0, callS_1, callS_2, callS_3, callS_4, callS_5, callS_6, callSL_0, callSL_1, callSL_2, callSL_3, callSL_4, M.pur_pure, M.pur_raise, M.nox_pure, retD_bind, retD_ret, retD_nx, retD_raise, retLst_bind, retLst_retL, retLst_raise, exits_bind, exits_ret, exits_retL, exits_brk, exits_cnt, exits_raise, andThen_bind, andThen_nx, andThen_ret, andThen_retL, andThen_brk, andThen_cnt, andThen_raise, bnd2, bnd3, bnd4, bndL2, if_true, if_false, Bool.false_eq_true, Bool.not_true, Bool.not_false, reduceIte, dAdd_int, dSub_int, dCmp_int, dEq_int, dNe_int, dLen_list, dLen_tup, dInt_int, dItems_list, dItems_tup, dListOf_list, dListOf_tup, dTuple_list, dTuple_tup, dLst_0, dTup_0, dLst_1, dTup_1, dLst_2, dTup_2, dLst_3, dTup_3, dLst_4, dTup_4, dLst_5, dTup_5, dLst_6, dTup_6, dLst_7, dTup_7, dLst_8, dTup_8, dLst_9, dTup_9, dLst_10, dTup_10, dLst_11, dTup_11, dLst_12, dTup_12, dIsN, dNeg_int, isI, dInt1])
  refine (t_draw (many := mp) (by omega) (by omega)).noxB fun d ⟨p, e, p0, p1⟩ => ?_
  subst e
  (try simp only [mCons, mB, mBB, mBL, mSeq, mBin, mBinL, mCmp, mChain, mOfB, mOfL, mTo, mIsI, mIsI2, mNot, mAnd, mOr, mIf, mIfx, mIfj, mRet, mRetL, mDo, mUnp, mSl, mSlL, mEnd, mApp, mExt, mRem, mStore, mRaise1, mPar, mParLL, mRng1, mRng2, mTRng, mLRng, mIxT, mStoreT, mDict1, mApp2, mPut2, mAppPop, M.bind_assoc, M.pure_bind, M.opt_some, M.raise_bind, callP_bind, callL_bind, callS_bind, callSL_bind, mForB_bind, mCompB_bind, mCompBL_bind, callP_0, callP_1, callP_2, callP_3, callP_4, callP_5, callP_6, callL_0, callL_1, callL_2, callL_3, callL_4, callL_5, callL_6, callS_0, callS_1, callS_2, callS_3, callS_4, callS_5, callS_6, callSL_0, callSL_1, callSL_2, callSL_3, callSL_4, M.pur_pure, M.pur_raise, M.nox_pure, retD_bind, retD_ret, retD_nx, retD_raise, retLst_bind, retLst_retL, retLst_raise, exits_bind, exits_ret, exits_retL, exits_brk, exits_cnt, exits_raise, andThen_bind, andThen_nx, andThen_ret, andThen_retL, andThen_brk, andThen_cnt, andThen_raise, bnd2, bnd3, bnd4, bndL2, if_true, if_false, Bool.false_eq_true, Bool.not_true, Bool.not_false, reduceIte, dAdd_int, dSub_int, dCmp_int, dEq_int, dNe_int, dLen_list, dLen_tup, dInt_int, dItems_list, dItems_tup, dListOf_list, dListOf_tup, dTuple_list, dTuple_tup, dLst_0, dTup_0, dLst_1, dTup_1, dLst_2, dTup_2, dLst_3, dTup_3, dLst_4, dTup_4, dLst_5, dTup_5, dLst_6, dTup_6, dLst_7, dTup_7, dLst_8, dTup_8, dLst_9, dTup_9, dLst_10, dTup_10, dLst_11, dTup_11, dLst_12, dTup_12, dIsN, dNeg_int, isI, dInt1])
  refine (t_draw (many := 4) (by omega) (by omega)).noxB fun d ⟨shape, e, s0, s1⟩ => ?_
  subst e
  (try simp only [mCons, mB, mBB, mBL, mSeq, mBin, mBinL, mCmp, mChain, mOfB, mOfL, mTo, mIsI, mIsI2, mNot, mAnd, mOr, mIf, mIfx, mIfj, mRet, mRetL, mDo, mUnp, mSl, mSlL, mEnd, mApp, mExt, mRem, mStore, mRaise1, mPar, mParLL, mRng1, mRng2, mTRng, mLRng, mIxT, mStoreT, mDict1, mApp2, mPut2, mAppPop, M.bind_assoc, M.pure_bind, M.opt_some, M.raise_bind, callP_bind, callL_bind, callS_bind, callSL_bind, mForB_bind, mCompB_bind, mCompBL_bind, callP_0, callP_1, callP_2, callP_3, callP_4, callP_5, callP_6, callL_0, callL_1, callL_2, callL_3, callL_4, callL_5, callL_6, callS_0, callS_1, callS_2, callS_3, callS_4, callS_5, callS_6, callSL_0, callSL_1, callSL_2, callSL_3, callSL_4, M.pur_pure, M.pur_raise, M.nox_pure, retD_bind, retD_ret, retD_nx, retD_raise, retLst_bind, retLst_retL, retLst_raise, exits_bind, exits_ret, exits_retL, exits_brk, exits_cnt, exits_raise, andThen_bind, andThen_nx, andThen_ret, andThen_retL, andThen_brk, andThen_cnt, andThen_raise, bnd2, bnd3, bnd4, bndL2, if_true, if_false, Bool.false_eq_true, Bool.not_true, Bool.not_false, reduceIte, dAdd_int, dSub_int, dCmp_int, dEq_int, dNe_int, dLen_list, dLen_tup, dInt_int, dItems_list, dItems_tup, dListOf_list, dListOf_tup, dTuple_list, dTuple_tup, dLst_0, dTup_0, dLst_1, dTup_1, dLst_2, dTup_2, dLst_3, dTup_3, dLst_4, dTup_4, dLst_5, dTup_5, dLst_6, dTup_6, dLst_7, dTup_7, dLst_8, dTup_8, dLst_9, dTup_9, dLst_10, dTup_10, dLst_11, dTup_11, dLst_12, dTup_12, dIsN, dNeg_int, isI, dInt1, rng1_ok (n := 1 + p) (by omega)])
  obtain ⟨n, hn⟩ : ∃ n : Nat, 1 + p = (n : Int) := ⟨(1 + p).toNat, by omega⟩
  have hn1 : 1 ≤ n := by omega
  have hn2 : n ≤ 12 := by omega
  rw [hn, Int.toNat_natCast, mCompBL_map (g := fun _ => []) (by rw [rngD_len]; omega) (fun d _ => ⟨d, rfl, rfl⟩)]
  (try simp only [mCons, mB, mBB, mBL, mSeq, mBin, mBinL, mCmp, mChain, mOfB, mOfL, mTo, mIsI, mIsI2, mNot, mAnd, mOr, mIf, mIfx, mIfj, mRet, mRetL, mDo, mUnp, mSl, mSlL, mEnd, mApp, mExt, mRem, mStore, mRaise1, mPar, mParLL, mRng1, mRng2, mTRng, mLRng, mIxT, mStoreT, mDict1, mApp2, mPut2, mAppPop, M.bind_assoc, M.pure_bind, M.opt_some, M.raise_bind, callP_bind, callL_bind, callS_bind, callSL_bind, mForB_bind, mCompB_bind, mCompBL_bind, callP_0, callP_1, callP_2, callP_3, callP_4, callP_5, callP_6, callL_0, callL_1, callL_2, callL_3, callL_4, callL_5, callL_6, callS_0, callS_1, callS_2, callS_3, callS_4, callS_5, callS_6, callSL_0, callSL_1, callSL_2, callSL_3, callSL_4, M.pur_pure, M.pur_raise, M.nox_pure, retD_bind, retD_ret, retD_nx, retD_raise, retLst_bind, retLst_retL, retLst_raise, exits_bind, exits_ret, exits_retL, exits_brk, exits_cnt, exits_raise, andThen_bind, andThen_nx, andThen_ret, andThen_retL, andThen_brk, andThen_cnt, andThen_raise, bnd2, bnd3, bnd4, bndL2, if_true, if_false, Bool.false_eq_true, Bool.not_true, Bool.not_false, reduceIte, dAdd_int, dSub_int, dCmp_int, dEq_int, dNe_int, dLen_list, dLen_tup, dInt_int, dItems_list, dItems_tup, dListOf_list, dListOf_tup, dTuple_list, dTuple_tup, dLst_0, dTup_0, dLst_1, dTup_1, dLst_2, dTup_2, dLst_3, dTup_3, dLst_4, dTup_4, dLst_5, dTup_5, dLst_6, dTup_6, dLst_7, dTup_7, dLst_8, dTup_8, dLst_9, dTup_9, dLst_10, dTup_10, dLst_11, dTup_11, dLst_12, dTup_12, dIsN, dNeg_int, isI, dInt1])
  refine (t_mixed (l := rngD 0 n) (by rw [rngD_len]; omega)).noxB fun order ho => ?_
  have hol : order.length = n := by rw [ho.length_eq, rngD_len]
  have hom : ∀ x ∈ order, RangeD n x := fun x hx => by
    obtain ⟨i, e, h0, h1⟩ := rngD_mem (ho.mem_iff.mp hx)
    exact ⟨i, e, h0, by omega⟩
  (try simp only [mCons, mB, mBB, mBL, mSeq, mBin, mBinL, mCmp, mChain, mOfB, mOfL, mTo, mIsI, mIsI2, mNot, mAnd, mOr, mIf, mIfx, mIfj, mRet, mRetL, mDo, mUnp, mSl, mSlL, mEnd, mApp, mExt, mRem, mStore, mRaise1, mPar, mParLL, mRng1, mRng2, mTRng, mLRng, mIxT, mStoreT, mDict1, mApp2, mPut2, mAppPop, M.bind_assoc, M.pure_bind, M.opt_some, M.raise_bind, callP_bind, callL_bind, callS_bind, callSL_bind, mForB_bind, mCompB_bind, mCompBL_bind, callP_0, callP_1, callP_2, callP_3, callP_4, callP_5, callP_6, callL_0, callL_1, callL_2, callL_3, callL_4, callL_5, callL_6, callS_0, callS_1, callS_2, callS_3, callS_4, callS_5, callS_6, callSL_0, callSL_1, callSL_2, callSL_3, callSL_4, M.pur_pure, M.pur_raise, M.nox_pure, retD_bind, retD_ret, retD_nx, retD_raise, retLst_bind, retLst_retL, retLst_raise, exits_bind, exits_ret, exits_retL, exits_brk, exits_cnt, exits_raise, andThen_bind, andThen_nx, andThen_ret, andThen_retL, andThen_brk, andThen_cnt, andThen_raise, bnd2, bnd3, bnd4, bndL2, if_true, if_false, Bool.false_eq_true, Bool.not_true, Bool.not_false, reduceIte, dAdd_int, dSub_int, dCmp_int, dEq_int, dNe_int, dLen_list, dLen_tup, dInt_int, dItems_list, dItems_tup, dListOf_list, dListOf_tup, dTuple_list, dTuple_tup, dLst_0, dTup_0, dLst_1, dTup_1, dLst_2, dTup_2, dLst_3, dTup_3, dLst_4, dTup_4, dLst_5, dTup_5, dLst_6, dTup_6, dLst_7, dTup_7, dLst_8, dTup_8, dLst_9, dTup_9, dLst_10, dTup_10, dLst_11, dTup_11, dLst_12, dTup_12, dIsN, dNeg_int, isI, dInt1, rng2_ok (a := 1) (b := (n : Int)) (by omega)])
  have hB0 : BooksB n 0 ((rngD 0 n).map fun _ => []) := ⟨by simp [rngD_len], fun b hb => by
    obtain ⟨_, _, rfl⟩ := List.mem_map.mp hb
    simp⟩
  refine Tri.forB (fun i bs => BooksB n i bs) hB0 (fun i d bs hd hb => ⟨d, rfl, ?_⟩) fun bs hb => ?_
  · obtain ⟨rfl, hi⟩ := rngD_at hd
    have hi' : i < n - 1 := by omega
    by_cases hs : (0 : Int) < shape
    · (try simp only [mCons, mB, mBB, mBL, mSeq, mBin, mBinL, mCmp, mChain, mOfB, mOfL, mTo, mIsI, mIsI2, mNot, mAnd, mOr, mIf, mIfx, mIfj, mRet, mRetL, mDo, mUnp, mSl, mSlL, mEnd, mApp, mExt, mRem, mStore, mRaise1, mPar, mParLL, mRng1, mRng2, mTRng, mLRng, mIxT, mStoreT, mDict1, mApp2, mPut2, mAppPop, M.bind_assoc, M.pure_bind, M.opt_some, M.raise_bind, callP_bind, callL_bind, callS_bind, callSL_bind, mForB_bind, mCompB_bind, mCompBL_bind, callP_0, callP_1, callP_2, callP_3, callP_4, callP_5, callP_6, callL_0, callL_1, callL_2, callL_3, callL_4, callL_5, callL_6, callS_0, callS_1, callS_2, callS_3, callS_4, callS_5, callS_6, callSL_0, callSL_1, callSL_2, callSL_3, callSL_4, M.pur_pure, M.pur_raise, M.nox_pure, retD_bind, retD_ret, retD_nx, retD_raise, retLst_bind, retLst_retL, retLst_raise, exits_bind, exits_ret, exits_retL, exits_brk, exits_cnt, exits_raise, andThen_bind, andThen_nx, andThen_ret, andThen_retL, andThen_brk, andThen_cnt, andThen_raise, bnd2, bnd3, bnd4, bndL2, if_true, if_false, Bool.false_eq_true, Bool.not_true, Bool.not_false, reduceIte, dAdd_int, dSub_int, dCmp_int, dEq_int, dNe_int, dLen_list, dLen_tup, dInt_int, dItems_list, dItems_tup, dListOf_list, dListOf_tup, dTuple_list, dTuple_tup, dLst_0, dTup_0, dLst_1, dTup_1, dLst_2, dTup_2, dLst_3, dTup_3, dLst_4, dTup_4, dLst_5, dTup_5, dLst_6, dTup_6, dLst_7, dTup_7, dLst_8, dTup_8, dLst_9, dTup_9, dLst_10, dTup_10, dLst_11, dTup_11, dLst_12, dTup_12, dIsN, dNeg_int, isI, dInt1, hs, decide_true])
      obtain ⟨one, e1, m1⟩ := item_list (l := order) (i := 1 + (i : Nat)) (by omega) (by omega)
      obtain ⟨one, rfl, o0, o1⟩ := hom _ m1
      rw [e1]
      (try simp only [mCons, mB, mBB, mBL, mSeq, mBin, mBinL, mCmp, mChain, mOfB, mOfL, mTo, mIsI, mIsI2, mNot, mAnd, mOr, mIf, mIfx, mIfj, mRet, mRetL, mDo, mUnp, mSl, mSlL, mEnd, mApp, mExt, mRem, mStore, mRaise1, mPar, mParLL, mRng1, mRng2, mTRng, mLRng, mIxT, mStoreT, mDict1, mApp2, mPut2, mAppPop, M.bind_assoc, M.pure_bind, M.opt_some, M.raise_bind, callP_bind, callL_bind, callS_bind, callSL_bind, mForB_bind, mCompB_bind, mCompBL_bind, callP_0, callP_1, callP_2, callP_3, callP_4, callP_5, callP_6, callL_0, callL_1, callL_2, callL_3, callL_4, callL_5, callL_6, callS_0, callS_1, callS_2, callS_3, callS_4, callS_5, callS_6, callSL_0, callSL_1, callSL_2, callSL_3, callSL_4, M.pur_pure, M.pur_raise, M.nox_pure, retD_bind, retD_ret, retD_nx, retD_raise, retLst_bind, retLst_retL, retLst_raise, exits_bind, exits_ret, exits_retL, exits_brk, exits_cnt, exits_raise, andThen_bind, andThen_nx, andThen_ret, andThen_retL, andThen_brk, andThen_cnt, andThen_raise, bnd2, bnd3, bnd4, bndL2, if_true, if_false, Bool.false_eq_true, Bool.not_true, Bool.not_false, reduceIte, dAdd_int, dSub_int, dCmp_int, dEq_int, dNe_int, dLen_list, dLen_tup, dInt_int, dItems_list, dItems_tup, dListOf_list, dListOf_tup, dTuple_list, dTuple_tup, dLst_0, dTup_0, dLst_1, dTup_1, dLst_2, dTup_2, dLst_3, dTup_3, dLst_4, dTup_4, dLst_5, dTup_5, dLst_6, dTup_6, dLst_7, dTup_7, dLst_8, dTup_8, dLst_9, dTup_9, dLst_10, dTup_10, dLst_11, dTup_11, dLst_12, dTup_12, dIsN, dNeg_int, isI, dInt1])
      refine (t_draw (many := 1 + (i : Nat)) (by omega) (by omega)).noxB fun d ⟨j, e, j0, j1⟩ => ?_
      subst e
      obtain ⟨other, e2, m2⟩ := item_list (l := order) (i := j) (by omega) (by omega)
      obtain ⟨other, rfl, t0, t1⟩ := hom _ m2
      (try simp only [mCons, mB, mBB, mBL, mSeq, mBin, mBinL, mCmp, mChain, mOfB, mOfL, mTo, mIsI, mIsI2, mNot, mAnd, mOr, mIf, mIfx, mIfj, mRet, mRetL, mDo, mUnp, mSl, mSlL, mEnd, mApp, mExt, mRem, mStore, mRaise1, mPar, mParLL, mRng1, mRng2, mTRng, mLRng, mIxT, mStoreT, mDict1, mApp2, mPut2, mAppPop, M.bind_assoc, M.pure_bind, M.opt_some, M.raise_bind, callP_bind, callL_bind, callS_bind, callSL_bind, mForB_bind, mCompB_bind, mCompBL_bind, callP_0, callP_1, callP_2, callP_3, callP_4, callP_5, callP_6, callL_0, callL_1, callL_2, callL_3, callL_4, callL_5, callL_6, callS_0, callS_1, callS_2, callS_3, callS_4, callS_5, callS_6, callSL_0, callSL_1, callSL_2, callSL_3, callSL_4, M.pur_pure, M.pur_raise, M.nox_pure, retD_bind, retD_ret, retD_nx, retD_raise, retLst_bind, retLst_retL, retLst_raise, exits_bind, exits_ret, exits_retL, exits_brk, exits_cnt, exits_raise, andThen_bind, andThen_nx, andThen_ret, andThen_retL, andThen_brk, andThen_cnt, andThen_raise, bnd2, bnd3, bnd4, bndL2, if_true, if_false, Bool.false_eq_true, Bool.not_true, Bool.not_false, reduceIte, dAdd_int, dSub_int, dCmp_int, dEq_int, dNe_int, dLen_list, dLen_tup, dInt_int, dItems_list, dItems_tup, dListOf_list, dListOf_tup, dTuple_list, dTuple_tup, dLst_0, dTup_0, dLst_1, dTup_1, dLst_2, dTup_2, dLst_3, dTup_3, dLst_4, dTup_4, dLst_5, dTup_5, dLst_6, dTup_6, dLst_7, dTup_7, dLst_8, dTup_8, dLst_9, dTup_9, dLst_10, dTup_10, dLst_11, dTup_11, dLst_12, dTup_12, dIsN, dNeg_int, isI, dInt1, e2])
      refine (t_draw (many := 2) (by omega) (by omega)).noxB fun d ⟨k, e, _, _⟩ => ?_
      subst e
      (try simp only [mCons, mB, mBB, mBL, mSeq, mBin, mBinL, mCmp, mChain, mOfB, mOfL, mTo, mIsI, mIsI2, mNot, mAnd, mOr, mIf, mIfx, mIfj, mRet, mRetL, mDo, mUnp, mSl, mSlL, mEnd, mApp, mExt, mRem, mStore, mRaise1, mPar, mParLL, mRng1, mRng2, mTRng, mLRng, mIxT, mStoreT, mDict1, mApp2, mPut2, mAppPop, M.bind_assoc, M.pure_bind, M.opt_some, M.raise_bind, callP_bind, callL_bind, callS_bind, callSL_bind, mForB_bind, mCompB_bind, mCompBL_bind, callP_0, callP_1, callP_2, callP_3, callP_4, callP_5, callP_6, callL_0, callL_1, callL_2, callL_3, callL_4, callL_5, callL_6, callS_0, callS_1, callS_2, callS_3, callS_4, callS_5, callS_6, callSL_0, callSL_1, callSL_2, callSL_3, callSL_4, M.pur_pure, M.pur_raise, M.nox_pure, retD_bind, retD_ret, retD_nx, retD_raise, retLst_bind, retLst_retL, retLst_raise, exits_bind, exits_ret, exits_retL, exits_brk, exits_cnt, exits_raise, andThen_bind, andThen_nx, andThen_ret, andThen_retL, andThen_brk, andThen_cnt, andThen_raise, bnd2, bnd3, bnd4, bndL2, if_true, if_false, Bool.false_eq_true, Bool.not_true, Bool.not_false, reduceIte, dAdd_int, dSub_int, dCmp_int, dEq_int, dNe_int, dLen_list, dLen_tup, dInt_int, dItems_list, dItems_tup, dListOf_list, dListOf_tup, dTuple_list, dTuple_tup, dLst_0, dTup_0, dLst_1, dTup_1, dLst_2, dTup_2, dLst_3, dTup_3, dLst_4, dTup_4, dLst_5, dTup_5, dLst_6, dTup_6, dLst_7, dTup_7, dLst_8, dTup_8, dLst_9, dTup_9, dLst_10, dTup_10, dLst_11, dTup_11, dLst_12, dTup_12, dIsN, dNeg_int, isI, dInt1])
      by_cases hk : k = 0
      · (try simp only [mCons, mB, mBB, mBL, mSeq, mBin, mBinL, mCmp, mChain, mOfB, mOfL, mTo, mIsI, mIsI2, mNot, mAnd, mOr, mIf, mIfx, mIfj, mRet, mRetL, mDo, mUnp, mSl, mSlL, mEnd, mApp, mExt, mRem, mStore, mRaise1, mPar, mParLL, mRng1, mRng2, mTRng, mLRng, mIxT, mStoreT, mDict1, mApp2, mPut2, mAppPop, M.bind_assoc, M.pure_bind, M.opt_some, M.raise_bind, callP_bind, callL_bind, callS_bind, callSL_bind, mForB_bind, mCompB_bind, mCompBL_bind, callP_0, callP_1, callP_2, callP_3, callP_4, callP_5, callP_6, callL_0, callL_1, callL_2, callL_3, callL_4, callL_5, callL_6, callS_0, callS_1, callS_2, callS_3, callS_4, callS_5, callS_6, callSL_0, callSL_1, callSL_2, callSL_3, callSL_4, M.pur_pure, M.pur_raise, M.nox_pure, retD_bind, retD_ret, retD_nx, retD_raise, retLst_bind, retLst_retL, retLst_raise, exits_bind, exits_ret, exits_retL, exits_brk, exits_cnt, exits_raise, andThen_bind, andThen_nx, andThen_ret, andThen_retL, andThen_brk, andThen_cnt, andThen_raise, bnd2, bnd3, bnd4, bndL2, if_true, if_false, Bool.false_eq_true, Bool.not_true, Bool.not_false, reduceIte, dAdd_int, dSub_int, dCmp_int, dEq_int, dNe_int, dLen_list, dLen_tup, dInt_int, dItems_list, dItems_tup, dListOf_list, dListOf_tup, dTuple_list, dTuple_tup, dLst_0, dTup_0, dLst_1, dTup_1, dLst_2, dTup_2, dLst_3, dTup_3, dLst_4, dTup_4, dLst_5, dTup_5, dLst_6, dTup_6, dLst_7, dTup_7, dLst_8, dTup_8, dLst_9, dTup_9, dLst_10, dTup_10, dLst_11, dTup_11, dLst_12, dTup_12, dIsN, dNeg_int, isI, dInt1, hk, decide_true, ix2_ok o0 o1, hb.1, ix2_ok t0 t1])
        obtain ⟨bs', e3, hb'⟩ := app2_ok hb (by omega) t0 t1 ⟨one, rfl, o0, o1⟩
        (try simp only [mCons, mB, mBB, mBL, mSeq, mBin, mBinL, mCmp, mChain, mOfB, mOfL, mTo, mIsI, mIsI2, mNot, mAnd, mOr, mIf, mIfx, mIfj, mRet, mRetL, mDo, mUnp, mSl, mSlL, mEnd, mApp, mExt, mRem, mStore, mRaise1, mPar, mParLL, mRng1, mRng2, mTRng, mLRng, mIxT, mStoreT, mDict1, mApp2, mPut2, mAppPop, M.bind_assoc, M.pure_bind, M.opt_some, M.raise_bind, callP_bind, callL_bind, callS_bind, callSL_bind, mForB_bind, mCompB_bind, mCompBL_bind, callP_0, callP_1, callP_2, callP_3, callP_4, callP_5, callP_6, callL_0, callL_1, callL_2, callL_3, callL_4, callL_5, callL_6, callS_0, callS_1, callS_2, callS_3, callS_4, callS_5, callS_6, callSL_0, callSL_1, callSL_2, callSL_3, callSL_4, M.pur_pure, M.pur_raise, M.nox_pure, retD_bind, retD_ret, retD_nx, retD_raise, retLst_bind, retLst_retL, retLst_raise, exits_bind, exits_ret, exits_retL, exits_brk, exits_cnt, exits_raise, andThen_bind, andThen_nx, andThen_ret, andThen_retL, andThen_brk, andThen_cnt, andThen_raise, bnd2, bnd3, bnd4, bndL2, if_true, if_false, Bool.false_eq_true, Bool.not_true, Bool.not_false, reduceIte, dAdd_int, dSub_int, dCmp_int, dEq_int, dNe_int, dLen_list, dLen_tup, dInt_int, dItems_list, dItems_tup, dListOf_list, dListOf_tup, dTuple_list, dTuple_tup, dLst_0, dTup_0, dLst_1, dTup_1, dLst_2, dTup_2, dLst_3, dTup_3, dLst_4, dTup_4, dLst_5, dTup_5, dLst_6, dTup_6, dLst_7, dTup_7, dLst_8, dTup_8, dLst_9, dTup_9, dLst_10, dTup_10, dLst_11, dTup_11, dLst_12, dTup_12, dIsN, dNeg_int, isI, dInt1, e3])
        exact .pure ⟨bs', .inl rfl, hb'⟩
      · (try simp only [mCons, mB, mBB, mBL, mSeq, mBin, mBinL, mCmp, mChain, mOfB, mOfL, mTo, mIsI, mIsI2, mNot, mAnd, mOr, mIf, mIfx, mIfj, mRet, mRetL, mDo, mUnp, mSl, mSlL, mEnd, mApp, mExt, mRem, mStore, mRaise1, mPar, mParLL, mRng1, mRng2, mTRng, mLRng, mIxT, mStoreT, mDict1, mApp2, mPut2, mAppPop, M.bind_assoc, M.pure_bind, M.opt_some, M.raise_bind, callP_bind, callL_bind, callS_bind, callSL_bind, mForB_bind, mCompB_bind, mCompBL_bind, callP_0, callP_1, callP_2, callP_3, callP_4, callP_5, callP_6, callL_0, callL_1, callL_2, callL_3, callL_4, callL_5, callL_6, callS_0, callS_1, callS_2, callS_3, callS_4, callS_5, callS_6, callSL_0, callSL_1, callSL_2, callSL_3, callSL_4, M.pur_pure, M.pur_raise, M.nox_pure, retD_bind, retD_ret, retD_nx, retD_raise, retLst_bind, retLst_retL, retLst_raise, exits_bind, exits_ret, exits_retL, exits_brk, exits_cnt, exits_raise, andThen_bind, andThen_nx, andThen_ret, andThen_retL, andThen_brk, andThen_cnt, andThen_raise, bnd2, bnd3, bnd4, bndL2, if_true, if_false, Bool.false_eq_true, Bool.not_true, Bool.not_false, reduceIte, dAdd_int, dSub_int, dCmp_int, dEq_int, dNe_int, dLen_list, dLen_tup, dInt_int, dItems_list, dItems_tup, dListOf_list, dListOf_tup, dTuple_list, dTuple_tup, dLst_0, dTup_0, dLst_1, dTup_1, dLst_2, dTup_2, dLst_3, dTup_3, dLst_4, dTup_4, dLst_5, dTup_5, dLst_6, dTup_6, dLst_7, dTup_7, dLst_8, dTup_8, dLst_9, dTup_9, dLst_10, dTup_10, dLst_11, dTup_11, dLst_12, dTup_12, dIsN, dNeg_int, isI, dInt1, hk, decide_false, ix2_ok o0 o1, hb.1])
        obtain ⟨bs', e3, hb'⟩ := app2_ok hb (by omega) o0 o1 ⟨other, rfl, t0, t1⟩
        (try simp only [mCons, mB, mBB, mBL, mSeq, mBin, mBinL, mCmp, mChain, mOfB, mOfL, mTo, mIsI, mIsI2, mNot, mAnd, mOr, mIf, mIfx, mIfj, mRet, mRetL, mDo, mUnp, mSl, mSlL, mEnd, mApp, mExt, mRem, mStore, mRaise1, mPar, mParLL, mRng1, mRng2, mTRng, mLRng, mIxT, mStoreT, mDict1, mApp2, mPut2, mAppPop, M.bind_assoc, M.pure_bind, M.opt_some, M.raise_bind, callP_bind, callL_bind, callS_bind, callSL_bind, mForB_bind, mCompB_bind, mCompBL_bind, callP_0, callP_1, callP_2, callP_3, callP_4, callP_5, callP_6, callL_0, callL_1, callL_2, callL_3, callL_4, callL_5, callL_6, callS_0, callS_1, callS_2, callS_3, callS_4, callS_5, callS_6, callSL_0, callSL_1, callSL_2, callSL_3, callSL_4, M.pur_pure, M.pur_raise, M.nox_pure, retD_bind, retD_ret, retD_nx, retD_raise, retLst_bind, retLst_retL, retLst_raise, exits_bind, exits_ret, exits_retL, exits_brk, exits_cnt, exits_raise, andThen_bind, andThen_nx, andThen_ret, andThen_retL, andThen_brk, andThen_cnt, andThen_raise, bnd2, bnd3, bnd4, bndL2, if_true, if_false, Bool.false_eq_true, Bool.not_true, Bool.not_false, reduceIte, dAdd_int, dSub_int, dCmp_int, dEq_int, dNe_int, dLen_list, dLen_tup, dInt_int, dItems_list, dItems_tup, dListOf_list, dListOf_tup, dTuple_list, dTuple_tup, dLst_0, dTup_0, dLst_1, dTup_1, dLst_2, dTup_2, dLst_3, dTup_3, dLst_4, dTup_4, dLst_5, dTup_5, dLst_6, dTup_6, dLst_7, dTup_7, dLst_8, dTup_8, dLst_9, dTup_9, dLst_10, dTup_10, dLst_11, dTup_11, dLst_12, dTup_12, dIsN, dNeg_int, isI, dInt1, e3])
        exact .pure ⟨bs', .inl rfl, hb'⟩
    · (try simp only [mCons, mB, mBB, mBL, mSeq, mBin, mBinL, mCmp, mChain, mOfB, mOfL, mTo, mIsI, mIsI2, mNot, mAnd, mOr, mIf, mIfx, mIfj, mRet, mRetL, mDo, mUnp, mSl, mSlL, mEnd, mApp, mExt, mRem, mStore, mRaise1, mPar, mParLL, mRng1, mRng2, mTRng, mLRng, mIxT, mStoreT, mDict1, mApp2, mPut2, mAppPop, M.bind_assoc, M.pure_bind, M.opt_some, M.raise_bind, callP_bind, callL_bind, callS_bind, callSL_bind, mForB_bind, mCompB_bind, mCompBL_bind, callP_0, callP_1, callP_2, callP_3, callP_4, callP_5, callP_6, callL_0, callL_1, callL_2, callL_3, callL_4, callL_5, callL_6, callS_0, callS_1, callS_2, callS_3, callS_4, callS_5, callS_6, callSL_0, callSL_1, callSL_2, callSL_3, callSL_4, M.pur_pure, M.pur_raise, M.nox_pure, retD_bind, retD_ret, retD_nx, retD_raise, retLst_bind, retLst_retL, retLst_raise, exits_bind, exits_ret, exits_retL, exits_brk, exits_cnt, exits_raise, andThen_bind, andThen_nx, andThen_ret, andThen_retL, andThen_brk, andThen_cnt, andThen_raise, bnd2, bnd3, bnd4, bndL2, if_true, if_false, Bool.false_eq_true, Bool.not_true, Bool.not_false, reduceIte, dAdd_int, dSub_int, dCmp_int, dEq_int, dNe_int, dLen_list, dLen_tup, dInt_int, dItems_list, dItems_tup, dListOf_list, dListOf_tup, dTuple_list, dTuple_tup, dLst_0, dTup_0, dLst_1, dTup_1, dLst_2, dTup_2, dLst_3, dTup_3, dLst_4, dTup_4, dLst_5, dTup_5, dLst_6, dTup_6, dLst_7, dTup_7, dLst_8, dTup_8, dLst_9, dTup_9, dLst_10, dTup_10, dLst_11, dTup_11, dLst_12, dTup_12, dIsN, dNeg_int, isI, dInt1, hs, decide_false])
      exact .pure ⟨bs, .inl rfl, hb.mono (by omega)⟩
  · rw [rngD_len] at hb
    refine (t_draw (many := mc) (by omega) (by omega)).noxB fun d ⟨few, e, f0, f1⟩ => ?_
    subst e
    (try simp only [mCons, mB, mBB, mBL, mSeq, mBin, mBinL, mCmp, mChain, mOfB, mOfL, mTo, mIsI, mIsI2, mNot, mAnd, mOr, mIf, mIfx, mIfj, mRet, mRetL, mDo, mUnp, mSl, mSlL, mEnd, mApp, mExt, mRem, mStore, mRaise1, mPar, mParLL, mRng1, mRng2, mTRng, mLRng, mIxT, mStoreT, mDict1, mApp2, mPut2, mAppPop, M.bind_assoc, M.pure_bind, M.opt_some, M.raise_bind, callP_bind, callL_bind, callS_bind, callSL_bind, mForB_bind, mCompB_bind, mCompBL_bind, callP_0, callP_1, callP_2, callP_3, callP_4, callP_5, callP_6, callL_0, callL_1, callL_2, callL_3, callL_4, callL_5, callL_6, callS_0, callS_1, callS_2, callS_3, callS_4, callS_5, callS_6, callSL_0, callSL_1, callSL_2, callSL_3, callSL_4, M.pur_pure, M.pur_raise, M.nox_pure, retD_bind, retD_ret, retD_nx, retD_raise, retLst_bind, retLst_retL, retLst_raise, exits_bind, exits_ret, exits_retL, exits_brk, exits_cnt, exits_raise, andThen_bind, andThen_nx, andThen_ret, andThen_retL, andThen_brk, andThen_cnt, andThen_raise, bnd2, bnd3, bnd4, bndL2, if_true, if_false, Bool.false_eq_true, Bool.not_true, Bool.not_false, reduceIte, dAdd_int, dSub_int, dCmp_int, dEq_int, dNe_int, dLen_list, dLen_tup, dInt_int, dItems_list, dItems_tup, dListOf_list, dListOf_tup, dTuple_list, dTuple_tup, dLst_0, dTup_0, dLst_1, dTup_1, dLst_2, dTup_2, dLst_3, dTup_3, dLst_4, dTup_4, dLst_5, dTup_5, dLst_6, dTup_6, dLst_7, dTup_7, dLst_8, dTup_8, dLst_9, dTup_9, dLst_10, dTup_10, dLst_11, dTup_11, dLst_12, dTup_12, dIsN, dNeg_int, isI, dInt1, rng1_ok (n := (n : Int)) (by omega), Int.toNat_natCast])
    refine Tri.forB (fun i bs => BooksB n (12 + 20 * i) bs) (hb.mono (by omega)) (fun i d bs hd hb => ⟨d, rfl, ?_⟩) fun bs hb => ?_
    · obtain ⟨rfl, hi⟩ := rngD_at hd
      have inner : ∀ k : Int, 0 ≤ k → k < 1 + few + 1 → Tri (mForB (α := List (List D)) (γ := List (List D)) (β := List (List D)) (M.opt (dRng1 [.int k])) some (fun xturn abooks => M.bind (M.opt (ix2 abooks.length (.int (0 + (i : Nat))))) fun j => M.bind (M.nox (M__law_draw [.int (n : Nat)])) fun d => M.bind (M.opt (app2 abooks j d)) fun v => M.pure (.nx v)) bs fun abooks => M.pure (.nx abooks)) fun o => ∃ x, o = .nx x ∧ BooksB n (12 + 20 * (i + 1)) x := by
        intro k k0 k1
        (try simp only [mCons, mB, mBB, mBL, mSeq, mBin, mBinL, mCmp, mChain, mOfB, mOfL, mTo, mIsI, mIsI2, mNot, mAnd, mOr, mIf, mIfx, mIfj, mRet, mRetL, mDo, mUnp, mSl, mSlL, mEnd, mApp, mExt, mRem, mStore, mRaise1, mPar, mParLL, mRng1, mRng2, mTRng, mLRng, mIxT, mStoreT, mDict1, mApp2, mPut2, mAppPop, M.bind_assoc, M.pure_bind, M.opt_some, M.raise_bind, callP_bind, callL_bind, callS_bind, callSL_bind, mForB_bind, mCompB_bind, mCompBL_bind, callP_0, callP_1, callP_2, callP_3, callP_4, callP_5, callP_6, callL_0, callL_1, callL_2, callL_3, callL_4, callL_5, callL_6, callS_0, callS_1, callS_2, callS_3, callS_4, callS_5, callS_6, callSL_0, callSL_1, callSL_2, callSL_3, callSL_4, M.pur_pure, M.pur_raise, M.nox_pure, retD_bind, retD_ret, retD_nx, retD_raise, retLst_bind, retLst_retL, retLst_raise, exits_bind, exits_ret, exits_retL, exits_brk, exits_cnt, exits_raise, andThen_bind, andThen_nx, andThen_ret, andThen_retL, andThen_brk, andThen_cnt, andThen_raise, bnd2, bnd3, bnd4, bndL2, if_true, if_false, Bool.false_eq_true, Bool.not_true, Bool.not_false, reduceIte, dAdd_int, dSub_int, dCmp_int, dEq_int, dNe_int, dLen_list, dLen_tup, dInt_int, dItems_list, dItems_tup, dListOf_list, dListOf_tup, dTuple_list, dTuple_tup, dLst_0, dTup_0, dLst_1, dTup_1, dLst_2, dTup_2, dLst_3, dTup_3, dLst_4, dTup_4, dLst_5, dTup_5, dLst_6, dTup_6, dLst_7, dTup_7, dLst_8, dTup_8, dLst_9, dTup_9, dLst_10, dTup_10, dLst_11, dTup_11, dLst_12, dTup_12, dIsN, dNeg_int, isI, dInt1, rng1_ok (n := k) (by omega)])
        refine Tri.forB (fun j bs => BooksB n (12 + 20 * i + j) bs) hb (fun j d bs hd hb => ⟨d, rfl, ?_⟩) fun bs hb => ?_
        · obtain ⟨rfl, hj⟩ := rngD_at hd
          (try simp only [mCons, mB, mBB, mBL, mSeq, mBin, mBinL, mCmp, mChain, mOfB, mOfL, mTo, mIsI, mIsI2, mNot, mAnd, mOr, mIf, mIfx, mIfj, mRet, mRetL, mDo, mUnp, mSl, mSlL, mEnd, mApp, mExt, mRem, mStore, mRaise1, mPar, mParLL, mRng1, mRng2, mTRng, mLRng, mIxT, mStoreT, mDict1, mApp2, mPut2, mAppPop, M.bind_assoc, M.pure_bind, M.opt_some, M.raise_bind, callP_bind, callL_bind, callS_bind, callSL_bind, mForB_bind, mCompB_bind, mCompBL_bind, callP_0, callP_1, callP_2, callP_3, callP_4, callP_5, callP_6, callL_0, callL_1, callL_2, callL_3, callL_4, callL_5, callL_6, callS_0, callS_1, callS_2, callS_3, callS_4, callS_5, callS_6, callSL_0, callSL_1, callSL_2, callSL_3, callSL_4, M.pur_pure, M.pur_raise, M.nox_pure, retD_bind, retD_ret, retD_nx, retD_raise, retLst_bind, retLst_retL, retLst_raise, exits_bind, exits_ret, exits_retL, exits_brk, exits_cnt, exits_raise, andThen_bind, andThen_nx, andThen_ret, andThen_retL, andThen_brk, andThen_cnt, andThen_raise, bnd2, bnd3, bnd4, bndL2, if_true, if_false, Bool.false_eq_true, Bool.not_true, Bool.not_false, reduceIte, dAdd_int, dSub_int, dCmp_int, dEq_int, dNe_int, dLen_list, dLen_tup, dInt_int, dItems_list, dItems_tup, dListOf_list, dListOf_tup, dTuple_list, dTuple_tup, dLst_0, dTup_0, dLst_1, dTup_1, dLst_2, dTup_2, dLst_3, dTup_3, dLst_4, dTup_4, dLst_5, dTup_5, dLst_6, dTup_6, dLst_7, dTup_7, dLst_8, dTup_8, dLst_9, dTup_9, dLst_10, dTup_10, dLst_11, dTup_11, dLst_12, dTup_12, dIsN, dNeg_int, isI, dInt1, hb.1, ix2_ok (n := n) (i := 0 + (i : Nat)) (by omega) (by omega)])
          refine (t_draw (many := (n : Int)) (by omega) (by omega)).noxB fun d ⟨c, e, c0, c1⟩ => ?_
          subst e
          obtain ⟨bs', e3, hb'⟩ := app2_ok hb (by omega) (i := 0 + (i : Nat)) (by omega) (by omega) ⟨c, rfl, c0, c1⟩
          (try simp only [mCons, mB, mBB, mBL, mSeq, mBin, mBinL, mCmp, mChain, mOfB, mOfL, mTo, mIsI, mIsI2, mNot, mAnd, mOr, mIf, mIfx, mIfj, mRet, mRetL, mDo, mUnp, mSl, mSlL, mEnd, mApp, mExt, mRem, mStore, mRaise1, mPar, mParLL, mRng1, mRng2, mTRng, mLRng, mIxT, mStoreT, mDict1, mApp2, mPut2, mAppPop, M.bind_assoc, M.pure_bind, M.opt_some, M.raise_bind, callP_bind, callL_bind, callS_bind, callSL_bind, mForB_bind, mCompB_bind, mCompBL_bind, callP_0, callP_1, callP_2, callP_3, callP_4, callP_5, callP_6, callL_0, callL_1, callL_2, callL_3, callL_4, callL_5, callL_6, callS_0, callS_1, callS_2, callS_3, callS_4, callS_5, callS_6, callSL_0, callSL_1, callSL_2, callSL_3, callSL_4, M.pur_pure, M.pur_raise, M.nox_pure, retD_bind, retD_ret, retD_nx, retD_raise, retLst_bind, retLst_retL, retLst_raise, exits_bind, exits_ret, exits_retL, exits_brk, exits_cnt, exits_raise, andThen_bind, andThen_nx, andThen_ret, andThen_retL, andThen_brk, andThen_cnt, andThen_raise, bnd2, bnd3, bnd4, bndL2, if_true, if_false, Bool.false_eq_true, Bool.not_true, Bool.not_false, reduceIte, dAdd_int, dSub_int, dCmp_int, dEq_int, dNe_int, dLen_list, dLen_tup, dInt_int, dItems_list, dItems_tup, dListOf_list, dListOf_tup, dTuple_list, dTuple_tup, dLst_0, dTup_0, dLst_1, dTup_1, dLst_2, dTup_2, dLst_3, dTup_3, dLst_4, dTup_4, dLst_5, dTup_5, dLst_6, dTup_6, dLst_7, dTup_7, dLst_8, dTup_8, dLst_9, dTup_9, dLst_10, dTup_10, dLst_11, dTup_11, dLst_12, dTup_12, dIsN, dNeg_int, isI, dInt1, e3])
          exact .pure ⟨bs', .inl rfl, hb'⟩
        · rw [rngD_len] at hb
          exact .pure ⟨bs, rfl, hb.mono (by omega)⟩
      have fin : ∀ {m : M (Out (List (List D)) (List (List D)))}, Tri m (fun o => ∃ x, o = .nx x ∧ BooksB n (12 + 20 * (i + 1)) x) → Tri (andThen m fun j => M.pure (.nx j)) fun o => ∃ a', (o = .nx a' ∨ o = .cnt a') ∧ BooksB n (12 + 20 * (i + 1)) a' := fun h => h.join fun x hx => .pure ⟨x, .inl rfl, hx⟩
      by_cases hs : shape < 3
      · (try simp only [mCons, mB, mBB, mBL, mSeq, mBin, mBinL, mCmp, mChain, mOfB, mOfL, mTo, mIsI, mIsI2, mNot, mAnd, mOr, mIf, mIfx, mIfj, mRet, mRetL, mDo, mUnp, mSl, mSlL, mEnd, mApp, mExt, mRem, mStore, mRaise1, mPar, mParLL, mRng1, mRng2, mTRng, mLRng, mIxT, mStoreT, mDict1, mApp2, mPut2, mAppPop, M.bind_assoc, M.pure_bind, M.opt_some, M.raise_bind, callP_bind, callL_bind, callS_bind, callSL_bind, mForB_bind, mCompB_bind, mCompBL_bind, callP_0, callP_1, callP_2, callP_3, callP_4, callP_5, callP_6, callL_0, callL_1, callL_2, callL_3, callL_4, callL_5, callL_6, callS_0, callS_1, callS_2, callS_3, callS_4, callS_5, callS_6, callSL_0, callSL_1, callSL_2, callSL_3, callSL_4, M.pur_pure, M.pur_raise, M.nox_pure, retD_bind, retD_ret, retD_nx, retD_raise, retLst_bind, retLst_retL, retLst_raise, exits_bind, exits_ret, exits_retL, exits_brk, exits_cnt, exits_raise, andThen_bind, andThen_nx, andThen_ret, andThen_retL, andThen_brk, andThen_cnt, andThen_raise, bnd2, bnd3, bnd4, bndL2, if_true, if_false, Bool.false_eq_true, Bool.not_true, Bool.not_false, reduceIte, dAdd_int, dSub_int, dCmp_int, dEq_int, dNe_int, dLen_list, dLen_tup, dInt_int, dItems_list, dItems_tup, dListOf_list, dListOf_tup, dTuple_list, dTuple_tup, dLst_0, dTup_0, dLst_1, dTup_1, dLst_2, dTup_2, dLst_3, dTup_3, dLst_4, dTup_4, dLst_5, dTup_5, dLst_6, dTup_6, dLst_7, dTup_7, dLst_8, dTup_8, dLst_9, dTup_9, dLst_10, dTup_10, dLst_11, dTup_11, dLst_12, dTup_12, dIsN, dNeg_int, isI, dInt1, hs, decide_true])
        refine (t_draw (many := 1 + few + 1) (by omega) (by omega)).noxB fun d ⟨k, e, k0, k1⟩ => ?_
        subst e
        exact fin (inner k k0 k1)
      · (try simp only [mCons, mB, mBB, mBL, mSeq, mBin, mBinL, mCmp, mChain, mOfB, mOfL, mTo, mIsI, mIsI2, mNot, mAnd, mOr, mIf, mIfx, mIfj, mRet, mRetL, mDo, mUnp, mSl, mSlL, mEnd, mApp, mExt, mRem, mStore, mRaise1, mPar, mParLL, mRng1, mRng2, mTRng, mLRng, mIxT, mStoreT, mDict1, mApp2, mPut2, mAppPop, M.bind_assoc, M.pure_bind, M.opt_some, M.raise_bind, callP_bind, callL_bind, callS_bind, callSL_bind, mForB_bind, mCompB_bind, mCompBL_bind, callP_0, callP_1, callP_2, callP_3, callP_4, callP_5, callP_6, callL_0, callL_1, callL_2, callL_3, callL_4, callL_5, callL_6, callS_0, callS_1, callS_2, callS_3, callS_4, callS_5, callS_6, callSL_0, callSL_1, callSL_2, callSL_3, callSL_4, M.pur_pure, M.pur_raise, M.nox_pure, retD_bind, retD_ret, retD_nx, retD_raise, retLst_bind, retLst_retL, retLst_raise, exits_bind, exits_ret, exits_retL, exits_brk, exits_cnt, exits_raise, andThen_bind, andThen_nx, andThen_ret, andThen_retL, andThen_brk, andThen_cnt, andThen_raise, bnd2, bnd3, bnd4, bndL2, if_true, if_false, Bool.false_eq_true, Bool.not_true, Bool.not_false, reduceIte, dAdd_int, dSub_int, dCmp_int, dEq_int, dNe_int, dLen_list, dLen_tup, dInt_int, dItems_list, dItems_tup, dListOf_list, dListOf_tup, dTuple_list, dTuple_tup, dLst_0, dTup_0, dLst_1, dTup_1, dLst_2, dTup_2, dLst_3, dTup_3, dLst_4, dTup_4, dLst_5, dTup_5, dLst_6, dTup_6, dLst_7, dTup_7, dLst_8, dTup_8, dLst_9, dTup_9, dLst_10, dTup_10, dLst_11, dTup_11, dLst_12, dTup_12, dIsN, dNeg_int, isI, dInt1, hs, decide_false])
        refine (t_draw (many := 3) (by omega) (by omega)).noxB fun d ⟨k, e, _, _⟩ => ?_
        subst e
        (try simp only [mCons, mB, mBB, mBL, mSeq, mBin, mBinL, mCmp, mChain, mOfB, mOfL, mTo, mIsI, mIsI2, mNot, mAnd, mOr, mIf, mIfx, mIfj, mRet, mRetL, mDo, mUnp, mSl, mSlL, mEnd, mApp, mExt, mRem, mStore, mRaise1, mPar, mParLL, mRng1, mRng2, mTRng, mLRng, mIxT, mStoreT, mDict1, mApp2, mPut2, mAppPop, M.bind_assoc, M.pure_bind, M.opt_some, M.raise_bind, callP_bind, callL_bind, callS_bind, callSL_bind, mForB_bind, mCompB_bind, mCompBL_bind, callP_0, callP_1, callP_2, callP_3, callP_4, callP_5, callP_6, callL_0, callL_1, callL_2, callL_3, callL_4, callL_5, callL_6, callS_0, callS_1, callS_2, callS_3, callS_4, callS_5, callS_6, callSL_0, callSL_1, callSL_2, callSL_3, callSL_4, M.pur_pure, M.pur_raise, M.nox_pure, retD_bind, retD_ret, retD_nx, retD_raise, retLst_bind, retLst_retL, retLst_raise, exits_bind, exits_ret, exits_retL, exits_brk, exits_cnt, exits_raise, andThen_bind, andThen_nx, andThen_ret, andThen_retL, andThen_brk, andThen_cnt, andThen_raise, bnd2, bnd3, bnd4, bndL2, if_true, if_false, Bool.false_eq_true, Bool.not_true, Bool.not_false, reduceIte, dAdd_int, dSub_int, dCmp_int, dEq_int, dNe_int, dLen_list, dLen_tup, dInt_int, dItems_list, dItems_tup, dListOf_list, dListOf_tup, dTuple_list, dTuple_tup, dLst_0, dTup_0, dLst_1, dTup_1, dLst_2, dTup_2, dLst_3, dTup_3, dLst_4, dTup_4, dLst_5, dTup_5, dLst_6, dTup_6, dLst_7, dTup_7, dLst_8, dTup_8, dLst_9, dTup_9, dLst_10, dTup_10, dLst_11, dTup_11, dLst_12, dTup_12, dIsN, dNeg_int, isI, dInt1])
        refine fin ?_
        by_cases hk : k = 0
        · (try simp only [mCons, mB, mBB, mBL, mSeq, mBin, mBinL, mCmp, mChain, mOfB, mOfL, mTo, mIsI, mIsI2, mNot, mAnd, mOr, mIf, mIfx, mIfj, mRet, mRetL, mDo, mUnp, mSl, mSlL, mEnd, mApp, mExt, mRem, mStore, mRaise1, mPar, mParLL, mRng1, mRng2, mTRng, mLRng, mIxT, mStoreT, mDict1, mApp2, mPut2, mAppPop, M.bind_assoc, M.pure_bind, M.opt_some, M.raise_bind, callP_bind, callL_bind, callS_bind, callSL_bind, mForB_bind, mCompB_bind, mCompBL_bind, callP_0, callP_1, callP_2, callP_3, callP_4, callP_5, callP_6, callL_0, callL_1, callL_2, callL_3, callL_4, callL_5, callL_6, callS_0, callS_1, callS_2, callS_3, callS_4, callS_5, callS_6, callSL_0, callSL_1, callSL_2, callSL_3, callSL_4, M.pur_pure, M.pur_raise, M.nox_pure, retD_bind, retD_ret, retD_nx, retD_raise, retLst_bind, retLst_retL, retLst_raise, exits_bind, exits_ret, exits_retL, exits_brk, exits_cnt, exits_raise, andThen_bind, andThen_nx, andThen_ret, andThen_retL, andThen_brk, andThen_cnt, andThen_raise, bnd2, bnd3, bnd4, bndL2, if_true, if_false, Bool.false_eq_true, Bool.not_true, Bool.not_false, reduceIte, dAdd_int, dSub_int, dCmp_int, dEq_int, dNe_int, dLen_list, dLen_tup, dInt_int, dItems_list, dItems_tup, dListOf_list, dListOf_tup, dTuple_list, dTuple_tup, dLst_0, dTup_0, dLst_1, dTup_1, dLst_2, dTup_2, dLst_3, dTup_3, dLst_4, dTup_4, dLst_5, dTup_5, dLst_6, dTup_6, dLst_7, dTup_7, dLst_8, dTup_8, dLst_9, dTup_9, dLst_10, dTup_10, dLst_11, dTup_11, dLst_12, dTup_12, dIsN, dNeg_int, isI, dInt1, hk, decide_true])
          refine (t_draw (many := 1 + few + 1) (by omega) (by omega)).noxB fun d ⟨k, e, k0, k1⟩ => ?_
          subst e
          exact inner k k0 k1
        · (try simp only [mCons, mB, mBB, mBL, mSeq, mBin, mBinL, mCmp, mChain, mOfB, mOfL, mTo, mIsI, mIsI2, mNot, mAnd, mOr, mIf, mIfx, mIfj, mRet, mRetL, mDo, mUnp, mSl, mSlL, mEnd, mApp, mExt, mRem, mStore, mRaise1, mPar, mParLL, mRng1, mRng2, mTRng, mLRng, mIxT, mStoreT, mDict1, mApp2, mPut2, mAppPop, M.bind_assoc, M.pure_bind, M.opt_some, M.raise_bind, callP_bind, callL_bind, callS_bind, callSL_bind, mForB_bind, mCompB_bind, mCompBL_bind, callP_0, callP_1, callP_2, callP_3, callP_4, callP_5, callP_6, callL_0, callL_1, callL_2, callL_3, callL_4, callL_5, callL_6, callS_0, callS_1, callS_2, callS_3, callS_4, callS_5, callS_6, callSL_0, callSL_1, callSL_2, callSL_3, callSL_4, M.pur_pure, M.pur_raise, M.nox_pure, retD_bind, retD_ret, retD_nx, retD_raise, retLst_bind, retLst_retL, retLst_raise, exits_bind, exits_ret, exits_retL, exits_brk, exits_cnt, exits_raise, andThen_bind, andThen_nx, andThen_ret, andThen_retL, andThen_brk, andThen_cnt, andThen_raise, bnd2, bnd3, bnd4, bndL2, if_true, if_false, Bool.false_eq_true, Bool.not_true, Bool.not_false, reduceIte, dAdd_int, dSub_int, dCmp_int, dEq_int, dNe_int, dLen_list, dLen_tup, dInt_int, dItems_list, dItems_tup, dListOf_list, dListOf_tup, dTuple_list, dTuple_tup, dLst_0, dTup_0, dLst_1, dTup_1, dLst_2, dTup_2, dLst_3, dTup_3, dLst_4, dTup_4, dLst_5, dTup_5, dLst_6, dTup_6, dLst_7, dTup_7, dLst_8, dTup_8, dLst_9, dTup_9, dLst_10, dTup_10, dLst_11, dTup_11, dLst_12, dTup_12, dIsN, dNeg_int, isI, dInt1, hk, decide_false])
          exact .pure ⟨bs, rfl, hb.mono (by omega)⟩
    · rw [rngD_len] at hb
      refine (t_draw (many := 3) (by omega) (by omega)).noxB fun d ⟨k, e, _, _⟩ => ?_
      subst e
      (try simp only [mCons, mB, mBB, mBL, mSeq, mBin, mBinL, mCmp, mChain, mOfB, mOfL, mTo, mIsI, mIsI2, mNot, mAnd, mOr, mIf, mIfx, mIfj, mRet, mRetL, mDo, mUnp, mSl, mSlL, mEnd, mApp, mExt, mRem, mStore, mRaise1, mPar, mParLL, mRng1, mRng2, mTRng, mLRng, mIxT, mStoreT, mDict1, mApp2, mPut2, mAppPop, M.bind_assoc, M.pure_bind, M.opt_some, M.raise_bind, callP_bind, callL_bind, callS_bind, callSL_bind, mForB_bind, mCompB_bind, mCompBL_bind, callP_0, callP_1, callP_2, callP_3, callP_4, callP_5, callP_6, callL_0, callL_1, callL_2, callL_3, callL_4, callL_5, callL_6, callS_0, callS_1, callS_2, callS_3, callS_4, callS_5, callS_6, callSL_0, callSL_1, callSL_2, callSL_3, callSL_4, M.pur_pure, M.pur_raise, M.nox_pure, retD_bind, retD_ret, retD_nx, retD_raise, retLst_bind, retLst_retL, retLst_raise, exits_bind, exits_ret, exits_retL, exits_brk, exits_cnt, exits_raise, andThen_bind, andThen_nx, andThen_ret, andThen_retL, andThen_brk, andThen_cnt, andThen_raise, bnd2, bnd3, bnd4, bndL2, if_true, if_false, Bool.false_eq_true, Bool.not_true, Bool.not_false, reduceIte, dAdd_int, dSub_int, dCmp_int, dEq_int, dNe_int, dLen_list, dLen_tup, dInt_int, dItems_list, dItems_tup, dListOf_list, dListOf_tup, dTuple_list, dTuple_tup, dLst_0, dTup_0, dLst_1, dTup_1, dLst_2, dTup_2, dLst_3, dTup_3, dLst_4, dTup_4, dLst_5, dTup_5, dLst_6, dTup_6, dLst_7, dTup_7, dLst_8, dTup_8, dLst_9, dTup_9, dLst_10, dTup_10, dLst_11, dTup_11, dLst_12, dTup_12, dIsN, dNeg_int, isI, dInt1])
      refine Tri.join (P := fun bs => BooksB n 1000 bs) ?_ fun bs hb => ?_
      · by_cases hk : k = 0
        · (try simp only [mCons, mB, mBB, mBL, mSeq, mBin, mBinL, mCmp, mChain, mOfB, mOfL, mTo, mIsI, mIsI2, mNot, mAnd, mOr, mIf, mIfx, mIfj, mRet, mRetL, mDo, mUnp, mSl, mSlL, mEnd, mApp, mExt, mRem, mStore, mRaise1, mPar, mParLL, mRng1, mRng2, mTRng, mLRng, mIxT, mStoreT, mDict1, mApp2, mPut2, mAppPop, M.bind_assoc, M.pure_bind, M.opt_some, M.raise_bind, callP_bind, callL_bind, callS_bind, callSL_bind, mForB_bind, mCompB_bind, mCompBL_bind, callP_0, callP_1, callP_2, callP_3, callP_4, callP_5, callP_6, callL_0, callL_1, callL_2, callL_3, callL_4, callL_5, callL_6, callS_0, callS_1, callS_2, callS_3, callS_4, callS_5, callS_6, callSL_0, callSL_1, callSL_2, callSL_3, callSL_4, M.pur_pure, M.pur_raise, M.nox_pure, retD_bind, retD_ret, retD_nx, retD_raise, retLst_bind, retLst_retL, retLst_raise, exits_bind, exits_ret, exits_retL, exits_brk, exits_cnt, exits_raise, andThen_bind, andThen_nx, andThen_ret, andThen_retL, andThen_brk, andThen_cnt, andThen_raise, bnd2, bnd3, bnd4, bndL2, if_true, if_false, Bool.false_eq_true, Bool.not_true, Bool.not_false, reduceIte, dAdd_int, dSub_int, dCmp_int, dEq_int, dNe_int, dLen_list, dLen_tup, dInt_int, dItems_list, dItems_tup, dListOf_list, dListOf_tup, dTuple_list, dTuple_tup, dLst_0, dTup_0, dLst_1, dTup_1, dLst_2, dTup_2, dLst_3, dTup_3, dLst_4, dTup_4, dLst_5, dTup_5, dLst_6, dTup_6, dLst_7, dTup_7, dLst_8, dTup_8, dLst_9, dTup_9, dLst_10, dTup_10, dLst_11, dTup_11, dLst_12, dTup_12, dIsN, dNeg_int, isI, dInt1, hk, decide_true])
          refine (t_draw (many := (n : Int)) (by omega) (by omega)).noxB fun d ⟨j, e, j0, j1⟩ => ?_
          subst e
          (try simp only [mCons, mB, mBB, mBL, mSeq, mBin, mBinL, mCmp, mChain, mOfB, mOfL, mTo, mIsI, mIsI2, mNot, mAnd, mOr, mIf, mIfx, mIfj, mRet, mRetL, mDo, mUnp, mSl, mSlL, mEnd, mApp, mExt, mRem, mStore, mRaise1, mPar, mParLL, mRng1, mRng2, mTRng, mLRng, mIxT, mStoreT, mDict1, mApp2, mPut2, mAppPop, M.bind_assoc, M.pure_bind, M.opt_some, M.raise_bind, callP_bind, callL_bind, callS_bind, callSL_bind, mForB_bind, mCompB_bind, mCompBL_bind, callP_0, callP_1, callP_2, callP_3, callP_4, callP_5, callP_6, callL_0, callL_1, callL_2, callL_3, callL_4, callL_5, callL_6, callS_0, callS_1, callS_2, callS_3, callS_4, callS_5, callS_6, callSL_0, callSL_1, callSL_2, callSL_3, callSL_4, M.pur_pure, M.pur_raise, M.nox_pure, retD_bind, retD_ret, retD_nx, retD_raise, retLst_bind, retLst_retL, retLst_raise, exits_bind, exits_ret, exits_retL, exits_brk, exits_cnt, exits_raise, andThen_bind, andThen_nx, andThen_ret, andThen_retL, andThen_brk, andThen_cnt, andThen_raise, bnd2, bnd3, bnd4, bndL2, if_true, if_false, Bool.false_eq_true, Bool.not_true, Bool.not_false, reduceIte, dAdd_int, dSub_int, dCmp_int, dEq_int, dNe_int, dLen_list, dLen_tup, dInt_int, dItems_list, dItems_tup, dListOf_list, dListOf_tup, dTuple_list, dTuple_tup, dLst_0, dTup_0, dLst_1, dTup_1, dLst_2, dTup_2, dLst_3, dTup_3, dLst_4, dTup_4, dLst_5, dTup_5, dLst_6, dTup_6, dLst_7, dTup_7, dLst_8, dTup_8, dLst_9, dTup_9, dLst_10, dTup_10, dLst_11, dTup_11, dLst_12, dTup_12, dIsN, dNeg_int, isI, dInt1, hb.1, ix2_ok (n := n) (i := j) (by omega) (by omega)])
          refine .pure ⟨_, rfl, by rw [List.length_set]; exact hb.1, fun b hb' => ?_⟩
          rcases List.mem_or_eq_of_mem_set hb' with z | z
          · exact ⟨by have := (hb.2 b z).1; omega, (hb.2 b z).2⟩
          · subst z; simp
        · (try simp only [mCons, mB, mBB, mBL, mSeq, mBin, mBinL, mCmp, mChain, mOfB, mOfL, mTo, mIsI, mIsI2, mNot, mAnd, mOr, mIf, mIfx, mIfj, mRet, mRetL, mDo, mUnp, mSl, mSlL, mEnd, mApp, mExt, mRem, mStore, mRaise1, mPar, mParLL, mRng1, mRng2, mTRng, mLRng, mIxT, mStoreT, mDict1, mApp2, mPut2, mAppPop, M.bind_assoc, M.pure_bind, M.opt_some, M.raise_bind, callP_bind, callL_bind, callS_bind, callSL_bind, mForB_bind, mCompB_bind, mCompBL_bind, callP_0, callP_1, callP_2, callP_3, callP_4, callP_5, callP_6, callL_0, callL_1, callL_2, callL_3, callL_4, callL_5, callL_6, callS_0, callS_1, callS_2, callS_3, callS_4, callS_5, callS_6, callSL_0, callSL_1, callSL_2, callSL_3, callSL_4, M.pur_pure, M.pur_raise, M.nox_pure, retD_bind, retD_ret, retD_nx, retD_raise, retLst_bind, retLst_retL, retLst_raise, exits_bind, exits_ret, exits_retL, exits_brk, exits_cnt, exits_raise, andThen_bind, andThen_nx, andThen_ret, andThen_retL, andThen_brk, andThen_cnt, andThen_raise, bnd2, bnd3, bnd4, bndL2, if_true, if_false, Bool.false_eq_true, Bool.not_true, Bool.not_false, reduceIte, dAdd_int, dSub_int, dCmp_int, dEq_int, dNe_int, dLen_list, dLen_tup, dInt_int, dItems_list, dItems_tup, dListOf_list, dListOf_tup, dTuple_list, dTuple_tup, dLst_0, dTup_0, dLst_1, dTup_1, dLst_2, dTup_2, dLst_3, dTup_3, dLst_4, dTup_4, dLst_5, dTup_5, dLst_6, dTup_6, dLst_7, dTup_7, dLst_8, dTup_8, dLst_9, dTup_9, dLst_10, dTup_10, dLst_11, dTup_11, dLst_12, dTup_12, dIsN, dNeg_int, isI, dInt1, hk, decide_false])
          exact .pure ⟨bs, rfl, hb.mono (by omega)⟩
      · refine (t_draw (many := 2) (by omega) (by omega)).noxB fun d ⟨k, e, _, _⟩ => ?_
        subst e
        (try simp only [mCons, mB, mBB, mBL, mSeq, mBin, mBinL, mCmp, mChain, mOfB, mOfL, mTo, mIsI, mIsI2, mNot, mAnd, mOr, mIf, mIfx, mIfj, mRet, mRetL, mDo, mUnp, mSl, mSlL, mEnd, mApp, mExt, mRem, mStore, mRaise1, mPar, mParLL, mRng1, mRng2, mTRng, mLRng, mIxT, mStoreT, mDict1, mApp2, mPut2, mAppPop, M.bind_assoc, M.pure_bind, M.opt_some, M.raise_bind, callP_bind, callL_bind, callS_bind, callSL_bind, mForB_bind, mCompB_bind, mCompBL_bind, callP_0, callP_1, callP_2, callP_3, callP_4, callP_5, callP_6, callL_0, callL_1, callL_2, callL_3, callL_4, callL_5, callL_6, callS_0, callS_1, callS_2, callS_3, callS_4, callS_5, callS_6, callSL_0, callSL_1, callSL_2, callSL_3, callSL_4, M.pur_pure, M.pur_raise, M.nox_pure, retD_bind, retD_ret, retD_nx, retD_raise, retLst_bind, retLst_retL, retLst_raise, exits_bind, exits_ret, exits_retL, exits_brk, exits_cnt, exits_raise, andThen_bind, andThen_nx, andThen_ret, andThen_retL, andThen_brk, andThen_cnt, andThen_raise, bnd2, bnd3, bnd4, bndL2, if_true, if_false, Bool.false_eq_true, Bool.not_true, Bool.not_false, reduceIte, dAdd_int, dSub_int, dCmp_int, dEq_int, dNe_int, dLen_list, dLen_tup, dInt_int, dItems_list, dItems_tup, dListOf_list, dListOf_tup, dTuple_list, dTuple_tup, dLst_0, dTup_0, dLst_1, dTup_1, dLst_2, dTup_2, dLst_3, dTup_3, dLst_4, dTup_4, dLst_5, dTup_5, dLst_6, dTup_6, dLst_7, dTup_7, dLst_8, dTup_8, dLst_9, dTup_9, dLst_10, dTup_10, dLst_11, dTup_11, dLst_12, dTup_12, dIsN, dNeg_int, isI, dInt1])
        refine Tri.join (P := fun d => ∃ ps, d = encB ps ∧ PlayT n ps) ?_ fun pl ⟨ps, e, hps⟩ => ?_
        · by_cases hk : k = 0
          · (try simp only [mCons, mB, mBB, mBL, mSeq, mBin, mBinL, mCmp, mChain, mOfB, mOfL, mTo, mIsI, mIsI2, mNot, mAnd, mOr, mIf, mIfx, mIfj, mRet, mRetL, mDo, mUnp, mSl, mSlL, mEnd, mApp, mExt, mRem, mStore, mRaise1, mPar, mParLL, mRng1, mRng2, mTRng, mLRng, mIxT, mStoreT, mDict1, mApp2, mPut2, mAppPop, M.bind_assoc, M.pure_bind, M.opt_some, M.raise_bind, callP_bind, callL_bind, callS_bind, callSL_bind, mForB_bind, mCompB_bind, mCompBL_bind, callP_0, callP_1, callP_2, callP_3, callP_4, callP_5, callP_6, callL_0, callL_1, callL_2, callL_3, callL_4, callL_5, callL_6, callS_0, callS_1, callS_2, callS_3, callS_4, callS_5, callS_6, callSL_0, callSL_1, callSL_2, callSL_3, callSL_4, M.pur_pure, M.pur_raise, M.nox_pure, retD_bind, retD_ret, retD_nx, retD_raise, retLst_bind, retLst_retL, retLst_raise, exits_bind, exits_ret, exits_retL, exits_brk, exits_cnt, exits_raise, andThen_bind, andThen_nx, andThen_ret, andThen_retL, andThen_brk, andThen_cnt, andThen_raise, bnd2, bnd3, bnd4, bndL2, if_true, if_false, Bool.false_eq_true, Bool.not_true, Bool.not_false, reduceIte, dAdd_int, dSub_int, dCmp_int, dEq_int, dNe_int, dLen_list, dLen_tup, dInt_int, dItems_list, dItems_tup, dListOf_list, dListOf_tup, dTuple_list, dTuple_tup, dLst_0, dTup_0, dLst_1, dTup_1, dLst_2, dTup_2, dLst_3, dTup_3, dLst_4, dTup_4, dLst_5, dTup_5, dLst_6, dTup_6, dLst_7, dTup_7, dLst_8, dTup_8, dLst_9, dTup_9, dLst_10, dTup_10, dLst_11, dTup_11, dLst_12, dTup_12, dIsN, dNeg_int, isI, dInt1, hk, decide_true])
            refine (t_some (l := rngD 0 n) (share := 5) (by omega) (by omega) (by rw [rngD_len]; omega)).noxB fun d ⟨r, e, hr⟩ => ?_
            subst e
            obtain ⟨ps, rfl, hps⟩ := sublist_play hr
            exact .pure ⟨_, rfl, ps, rfl, hps⟩
          · (try simp only [mCons, mB, mBB, mBL, mSeq, mBin, mBinL, mCmp, mChain, mOfB, mOfL, mTo, mIsI, mIsI2, mNot, mAnd, mOr, mIf, mIfx, mIfj, mRet, mRetL, mDo, mUnp, mSl, mSlL, mEnd, mApp, mExt, mRem, mStore, mRaise1, mPar, mParLL, mRng1, mRng2, mTRng, mLRng, mIxT, mStoreT, mDict1, mApp2, mPut2, mAppPop, M.bind_assoc, M.pure_bind, M.opt_some, M.raise_bind, callP_bind, callL_bind, callS_bind, callSL_bind, mForB_bind, mCompB_bind, mCompBL_bind, callP_0, callP_1, callP_2, callP_3, callP_4, callP_5, callP_6, callL_0, callL_1, callL_2, callL_3, callL_4, callL_5, callL_6, callS_0, callS_1, callS_2, callS_3, callS_4, callS_5, callS_6, callSL_0, callSL_1, callSL_2, callSL_3, callSL_4, M.pur_pure, M.pur_raise, M.nox_pure, retD_bind, retD_ret, retD_nx, retD_raise, retLst_bind, retLst_retL, retLst_raise, exits_bind, exits_ret, exits_retL, exits_brk, exits_cnt, exits_raise, andThen_bind, andThen_nx, andThen_ret, andThen_retL, andThen_brk, andThen_cnt, andThen_raise, bnd2, bnd3, bnd4, bndL2, if_true, if_false, Bool.false_eq_true, Bool.not_true, Bool.not_false, reduceIte, dAdd_int, dSub_int, dCmp_int, dEq_int, dNe_int, dLen_list, dLen_tup, dInt_int, dItems_list, dItems_tup, dListOf_list, dListOf_tup, dTuple_list, dTuple_tup, dLst_0, dTup_0, dLst_1, dTup_1, dLst_2, dTup_2, dLst_3, dTup_3, dLst_4, dTup_4, dLst_5, dTup_5, dLst_6, dTup_6, dLst_7, dTup_7, dLst_8, dTup_8, dLst_9, dTup_9, dLst_10, dTup_10, dLst_11, dTup_11, dLst_12, dTup_12, dIsN, dNeg_int, isI, dInt1, hk, decide_false])
            obtain ⟨ps, e, hps⟩ := sublist_play (List.Sublist.refl (rngD 0 n))
            exact .pure ⟨_, rfl, ps, by rw [e]; rfl, hps⟩
        · subst e
          obtain ⟨cs, rfl, hcs⟩ := booksB_ints hb.2
          have hlen : cs.length = n := by simpa using hb.1
          rw [mCompB_map (g := fun d => match d with | .list l => encB (finT mc.toNat ((intsOf l).getD [])) | d => d) (by simp; omega) fun d hd => ?_]
          · (try simp only [mCons, mB, mBB, mBL, mSeq, mBin, mBinL, mCmp, mChain, mOfB, mOfL, mTo, mIsI, mIsI2, mNot, mAnd, mOr, mIf, mIfx, mIfj, mRet, mRetL, mDo, mUnp, mSl, mSlL, mEnd, mApp, mExt, mRem, mStore, mRaise1, mPar, mParLL, mRng1, mRng2, mTRng, mLRng, mIxT, mStoreT, mDict1, mApp2, mPut2, mAppPop, M.bind_assoc, M.pure_bind, M.opt_some, M.raise_bind, callP_bind, callL_bind, callS_bind, callSL_bind, mForB_bind, mCompB_bind, mCompBL_bind, callP_0, callP_1, callP_2, callP_3, callP_4, callP_5, callP_6, callL_0, callL_1, callL_2, callL_3, callL_4, callL_5, callL_6, callS_0, callS_1, callS_2, callS_3, callS_4, callS_5, callS_6, callSL_0, callSL_1, callSL_2, callSL_3, callSL_4, M.pur_pure, M.pur_raise, M.nox_pure, retD_bind, retD_ret, retD_nx, retD_raise, retLst_bind, retLst_retL, retLst_raise, exits_bind, exits_ret, exits_retL, exits_brk, exits_cnt, exits_raise, andThen_bind, andThen_nx, andThen_ret, andThen_retL, andThen_brk, andThen_cnt, andThen_raise, bnd2, bnd3, bnd4, bndL2, if_true, if_false, Bool.false_eq_true, Bool.not_true, Bool.not_false, reduceIte, dAdd_int, dSub_int, dCmp_int, dEq_int, dNe_int, dLen_list, dLen_tup, dInt_int, dItems_list, dItems_tup, dListOf_list, dListOf_tup, dTuple_list, dTuple_tup, dLst_0, dTup_0, dLst_1, dTup_1, dLst_2, dTup_2, dLst_3, dTup_3, dLst_4, dTup_4, dLst_5, dTup_5, dLst_6, dTup_6, dLst_7, dTup_7, dLst_8, dTup_8, dLst_9, dTup_9, dLst_10, dTup_10, dLst_11, dTup_11, dLst_12, dTup_12, dIsN, dNeg_int, isI, dInt1])
            refine .pure ⟨_, rfl, cs.map (finT mc.toNat), ps, ?_, ⟨by simpa [hlen] using hn1, by simpa [hlen] using hn2, fun b hb' => ?_⟩, by simpa [hlen] using hps⟩
            · simp [encH]
            · obtain ⟨c, hc, rfl⟩ := List.mem_map.mp hb'
              have := finT_book (n := n) (mc := mc.toNat) (by omega) (hcs c hc).2
              simpa [hlen] using this
          · obtain ⟨l, hl, rfl⟩ := List.mem_map.mp hd
            obtain ⟨c, hc, rfl⟩ := List.mem_map.mp hl
            refine ⟨_, rfl, ?_⟩
            have hcl := (hcs c hc).1
            have e1 : dSliceL (.list (c.map .int)) none (some mc) = some ((c.take mc.toNat).map .int) := by
              show some (cutL (c.map PyData.int) none (some mc)) = _
              have this : cutL (c.map PyData.int) none (some ((mc.toNat : Nat) : Int)) = (c.map PyData.int).take mc.toNat := cutL_take _ _
              rw [Int.toNat_of_nonneg (by omega)] at this
              rw [this, List.map_take]
            have e2 := sorted_ints (b := c.take mc.toNat) (by rw [List.length_take]; omega)
            (try simp only [mCons, mB, mBB, mBL, mSeq, mBin, mBinL, mCmp, mChain, mOfB, mOfL, mTo, mIsI, mIsI2, mNot, mAnd, mOr, mIf, mIfx, mIfj, mRet, mRetL, mDo, mUnp, mSl, mSlL, mEnd, mApp, mExt, mRem, mStore, mRaise1, mPar, mParLL, mRng1, mRng2, mTRng, mLRng, mIxT, mStoreT, mDict1, mApp2, mPut2, mAppPop, M.bind_assoc, M.pure_bind, M.opt_some, M.raise_bind, callP_bind, callL_bind, callS_bind, callSL_bind, mForB_bind, mCompB_bind, mCompBL_bind, callP_0, callP_1, callP_2, callP_3, callP_4, callP_5, callP_6, callL_0, callL_1, callL_2, callL_3, callL_4, callL_5, callL_6, callS_0, callS_1, callS_2, callS_3, callS_4, callS_5, callS_6, callSL_0, callSL_1, callSL_2, callSL_3, callSL_4, M.pur_pure, M.pur_raise, M.nox_pure, retD_bind, retD_ret, retD_nx, retD_raise, retLst_bind, retLst_retL, retLst_raise, exits_bind, exits_ret, exits_retL, exits_brk, exits_cnt, exits_raise, andThen_bind, andThen_nx, andThen_ret, andThen_retL, andThen_brk, andThen_cnt, andThen_raise, bnd2, bnd3, bnd4, bndL2, if_true, if_false, Bool.false_eq_true, Bool.not_true, Bool.not_false, reduceIte, dAdd_int, dSub_int, dCmp_int, dEq_int, dNe_int, dLen_list, dLen_tup, dInt_int, dItems_list, dItems_tup, dListOf_list, dListOf_tup, dTuple_list, dTuple_tup, dLst_0, dTup_0, dLst_1, dTup_1, dLst_2, dTup_2, dLst_3, dTup_3, dLst_4, dTup_4, dLst_5, dTup_5, dLst_6, dTup_6, dLst_7, dTup_7, dLst_8, dTup_8, dLst_9, dTup_9, dLst_10, dTup_10, dLst_11, dTup_11, dLst_12, dTup_12, dIsN, dNeg_int, isI, dInt1, e1, e2])
            simp [finT]
            rfl
end Law
end
section
set_option Elab.async false
set_option linter.all false
set_option maxRecDepth 100000
set_option maxHeartbeats 400000
namespace Law
open PySem PySem.Spec PyProof.Rows L2 Sim
/-- what _law_same does, the call of itself left open -/
def sameB (R : D × D → M D) (v_one v_due : D) : M (Out Unit Unit) :=
 (mIfx (mIsI2 .tuple .list (M.pure v_due)) (mIfx (mOr (mCmp dNe (mOfB (mIsI .tuple (M.pure v_one))) (mOfB (mIsI .tuple (M.pure v_due)))) (mNot (mIsI2 .tuple .list (M.pure v_one)))) (mRet (mOfB (M.pure false)))
 (mRet (mOfB (mAnd (mCmp dEq (mB dLen (mCons (M.pure v_one) (M.pure []))) (mB dLen (mCons (M.pure v_due) (M.pure [])))) (mBB dAll (mCons (mOfL (mCompB (mBL dZip (mCons (M.pure v_one) (mCons (M.pure v_due) (M.pure [])))) bnd2 yes R)) (M.pure [])))))))
 (mIfx (mOr (mIsI .bool (M.pure v_due)) (mOr (mIsI .bool (M.pure v_one)) (mOr (M.bind (M.pure v_due) fun x => M.pure (dIsN x)) (M.bind (M.pure v_one) fun x => M.pure (dIsN x))))) (mRet (mOfB (mAnd (mCmp dEq (mOfB (mIsI .bool (M.pure v_one))) (mOfB (mIsI .bool (M.pure v_due)))) (mAnd (mCmp dEq (mOfB (M.bind (M.pure v_one) fun x => M.pure (dIsN x))) (mOfB (M.bind (M.pure v_due) fun x => M.pure (dIsN x)))) (mCmp dEq (M.pure v_one) (M.pure v_due))))))
 (mRet (mOfB (mAnd (mCmp dEq (mOfB (mIsI .str (M.pure v_one))) (mOfB (mIsI .str (M.pure v_due)))) (mAnd (mIsI2 .int .str (M.pure v_one)) (mCmp dEq (M.pure v_one) (M.pure v_due))))))))
theorem same_eq_0 : B__law_same_0 = sameB (fun _ => M.stuck) := rfl
theorem same_eq_1 : B__law_same_1 = sameB (fun x => callP 2 M__law_same_0 (mCons (M.pure x.1) (mCons (M.pure x.2) (M.pure [])))) := rfl
theorem same_eq_2 : B__law_same_2 = sameB (fun x => callP 2 M__law_same_1 (mCons (M.pure x.1) (mCons (M.pure x.2) (M.pure [])))) := rfl
theorem same_eq_3 : B__law_same_3 = sameB (fun x => callP 2 M__law_same_2 (mCons (M.pure x.1) (mCons (M.pure x.2) (M.pure [])))) := rfl
theorem same_eq_4 : B__law_same_4 = sameB (fun x => callP 2 M__law_same_3 (mCons (M.pure x.1) (mCons (M.pure x.2) (M.pure [])))) := rfl
/-- plain data, nested so deep at most -/
def pl : Nat → D → Bool
  | _, .none => true
  | _, .bool _ => true
  | _, .int _ => true
  | _, .str x => PyData.strOk x
  | 0, _ => false
  | k + 1, .list l => decide (l.length ≤ 1000000) && l.all (pl k)
  | k + 1, .tuple l => decide (l.length ≤ 1000000) && l.all (pl k)
  | _, .dict _ => false
theorem all_canLay {l : List D} (h : ∀ x ∈ l, x.canLay0 = true) : PyData.canLayAll0 l = true := by
  induction l with
  | nil => rfl
  | cons a r ih => simp [PyData.canLayAll0, h a (by simp), ih fun x hx => h x (List.mem_cons_of_mem _ hx)]
theorem all_depth {l : List D} {k : Nat} (h : ∀ x ∈ l, x.depth ≤ k) : PyData.depthAll l ≤ k := by
  induction l with
  | nil => simp [PyData.depthAll]
  | cons a r ih =>
    have := h a (by simp)
    have := ih fun x hx => h x (List.mem_cons_of_mem _ hx)
    simp [PyData.depthAll]
    omega
theorem pl_lay : ∀ {k : Nat} {d : D}, pl k d = true → d.canLay0 = true ∧ d.depth ≤ k
  | _, .none, _ => ⟨rfl, Nat.zero_le _⟩
  | _, .bool _, _ => ⟨rfl, Nat.zero_le _⟩
  | _, .int _, _ => ⟨rfl, Nat.zero_le _⟩
  | k, .str x, h => by
    refine ⟨?_, Nat.zero_le _⟩
    cases k <;> simpa [pl, PyData.canLay0] using h
  | 0, .list _, h => by simp [pl] at h
  | 0, .tuple _, h => by simp [pl] at h
  | k, .dict _, h => by cases k <;> simp [pl] at h
  | k + 1, .list l, h => by
    simp only [pl, Bool.and_eq_true, List.all_eq_true] at h
    have := fun x hx => pl_lay (h.2 x hx)
    refine ⟨?_, ?_⟩
    · simp only [PyData.canLay0]
      exact all_canLay fun x hx => (this x hx).1
    · simp only [PyData.depth]
      exact Nat.succ_le_succ (all_depth fun x hx => (this x hx).2)
  | k + 1, .tuple l, h => by
    simp only [pl, Bool.and_eq_true, List.all_eq_true] at h
    have := fun x hx => pl_lay (h.2 x hx)
    refine ⟨?_, ?_⟩
    · simp only [PyData.canLay0]
      exact all_canLay fun x hx => (this x hx).1
    · simp only [PyData.depth]
      exact Nat.succ_le_succ (all_depth fun x hx => (this x hx).2)
theorem pl_shaped {k : Nat} {d : D} (h : pl k d = true) (hk : k ≤ 64) : SeqAt.shaped d = true := by
  obtain ⟨h1, h2⟩ := pl_lay h
  simp [SeqAt.shaped, h1]
  omega
theorem dEq_pl {k j : Nat} {a b : D} (ha : pl k a = true) (hb : pl j b = true) (hk : k ≤ 64) (hj : j ≤ 64) : dEq a b = some (PyData.eqv a b) := by
  simp [dEq, pl_shaped ha hk, pl_shaped hb hj]
theorem dNe_pl {k j : Nat} {a b : D} (ha : pl k a = true) (hb : pl j b = true) (hk : k ≤ 64) (hj : j ≤ 64) : dNe a b = some (!PyData.eqv a b) := by
  simp [dNe, pl_shaped ha hk, pl_shaped hb hj]
theorem dEq_self {k : Nat} {a : D} (ha : pl k a = true) (hk : k ≤ 64) : dEq a a = some true := by
  rw [dEq_pl ha ha hk hk, PySem.SeqAt.eqv_refl a (pl_lay ha).1]
theorem dNe_self {k : Nat} {a : D} (ha : pl k a = true) (hk : k ≤ 64) : dNe a a = some false := by
  rw [dNe_pl ha ha hk hk, PySem.SeqAt.eqv_refl a (pl_lay ha).1]
  rfl
theorem dEq_bool (a b : Bool) : dEq (.bool a) (.bool b) = some (a == b) := dEq_pl (k := 0) (j := 0) rfl rfl (by decide) (by decide)
theorem dNe_bool (a b : Bool) : dNe (.bool a) (.bool b) = some (!(a == b)) := dNe_pl (k := 0) (j := 0) rfl rfl (by decide) (by decide)
theorem zip_self_mem {l : List D} {d : D} (h : d ∈ zipD l l) : ∃ x ∈ l, d = .tuple [x, x] := by
  unfold zipD at h
  obtain ⟨⟨x, y⟩, h1, rfl⟩ := List.mem_map.mp h
  have e : x = y := by
    clear h
    induction l with
    | nil => simp at h1
    | cons a r ih =>
      simp only [List.zip_cons_cons, List.mem_cons, Prod.mk.injEq] at h1
      rcases h1 with ⟨rfl, rfl⟩ | h1
      · rfl
      · exact ih h1
  subst e
  exact ⟨x, (List.of_mem_zip h1).1, rfl⟩
theorem sameB_list {R : D × D → M D} {l : List D} (hl : l.length ≤ 1000000) (h : ∀ x ∈ l, R (x, x) = M.pure (.bool true)) : mCompB (M.pure (zipD l l)) bnd2 yes R = M.pure ((zipD l l).map fun _ => .bool true) :=
  mCompB_map (g := fun _ => .bool true) (Nat.le_trans (zipD_len _ _) hl) fun d hd => by
    obtain ⟨x, hx, rfl⟩ := zip_self_mem hd
    exact ⟨(x, x), rfl, h x hx⟩
theorem all_true (l : List D) : dAll [.list (l.map fun _ => .bool true)] = some true := by
  have := dAll_map (fun _ => true) l
  rw [this]
  simp
theorem sameB_self {R : D × D → M D} {d : D} {k : Nat} (hd : pl k d = true) (h : ∀ l, (d = .list l ∨ d = .tuple l) → l.length ≤ 1000000 ∧ ∀ x ∈ l, R (x, x) = M.pure (.bool true)) (hk : k ≤ 64) : retD (sameB R d d) = M.pure (.bool true) := by
  unfold sameB
  cases d with
  | list l =>
    obtain ⟨h1, h2⟩ := h l (.inl rfl)
    (try simp only [mCons, mB, mBB, mBL, mSeq, mBin, mBinL, mCmp, mChain, mOfB, mOfL, mTo, mIsI, mIsI2, mNot, mAnd, mOr, mIf, mIfx, mIfj, mRet, mRetL, mDo, mUnp, mSl, mSlL, mEnd, mApp, mExt, mRem, mStore, mRaise1, mPar, mParLL, mRng1, mRng2, mTRng, mLRng, mIxT, mStoreT, mDict1, mApp2, mPut2, mAppPop, M.bind_assoc, M.pure_bind, M.opt_some, M.raise_bind, callP_bind, callL_bind, callS_bind, callSL_bind, mForB_bind, mCompB_bind, mCompBL_bind, callP_0, callP_1, callP_2, callP_3, callP_4, callP_5, callP_6, callL_0, callL_1, callL_2, callL_3, callL_4, callL_5, callL_6, callS_0, callS_1, callS_2, callS_3, callS_4, callS_5, callS_6, callSL_0, callSL_1, callSL_2, callSL_3, callSL_4, M.pur_pure, M.pur_raise, M.nox_pure, retD_bind, retD_ret, retD_nx, retD_raise, retLst_bind, retLst_retL, retLst_raise, exits_bind, exits_ret, exits_retL, exits_brk, exits_cnt, exits_raise, andThen_bind, andThen_nx, andThen_ret, andThen_retL, andThen_brk, andThen_cnt, andThen_raise, bnd2, bnd3, bnd4, bndL2, if_true, if_false, Bool.false_eq_true, Bool.not_true, Bool.not_false, reduceIte, dAdd_int, dSub_int, dCmp_int, dEq_int, dNe_int, dLen_list, dLen_tup, dInt_int, dItems_list, dItems_tup, dListOf_list, dListOf_tup, dTuple_list, dTuple_tup, dLst_0, dTup_0, dLst_1, dTup_1, dLst_2, dTup_2, dLst_3, dTup_3, dLst_4, dTup_4, dLst_5, dTup_5, dLst_6, dTup_6, dLst_7, dTup_7, dLst_8, dTup_8, dLst_9, dTup_9, dLst_10, dTup_10, dLst_11, dTup_11, dLst_12, dTup_12, dIsN, dNeg_int, isI, dInt1, dZip, sameB_list h1 h2, all_true, dNe_bool, dEq_self (a := .int (l.length : Nat)) (k := 0) rfl (by decide), Bool.or_true, Bool.true_or, Bool.or_false, Bool.false_or, decide_true])
    simp
  | tuple l =>
    obtain ⟨h1, h2⟩ := h l (.inr rfl)
    (try simp only [mCons, mB, mBB, mBL, mSeq, mBin, mBinL, mCmp, mChain, mOfB, mOfL, mTo, mIsI, mIsI2, mNot, mAnd, mOr, mIf, mIfx, mIfj, mRet, mRetL, mDo, mUnp, mSl, mSlL, mEnd, mApp, mExt, mRem, mStore, mRaise1, mPar, mParLL, mRng1, mRng2, mTRng, mLRng, mIxT, mStoreT, mDict1, mApp2, mPut2, mAppPop, M.bind_assoc, M.pure_bind, M.opt_some, M.raise_bind, callP_bind, callL_bind, callS_bind, callSL_bind, mForB_bind, mCompB_bind, mCompBL_bind, callP_0, callP_1, callP_2, callP_3, callP_4, callP_5, callP_6, callL_0, callL_1, callL_2, callL_3, callL_4, callL_5, callL_6, callS_0, callS_1, callS_2, callS_3, callS_4, callS_5, callS_6, callSL_0, callSL_1, callSL_2, callSL_3, callSL_4, M.pur_pure, M.pur_raise, M.nox_pure, retD_bind, retD_ret, retD_nx, retD_raise, retLst_bind, retLst_retL, retLst_raise, exits_bind, exits_ret, exits_retL, exits_brk, exits_cnt, exits_raise, andThen_bind, andThen_nx, andThen_ret, andThen_retL, andThen_brk, andThen_cnt, andThen_raise, bnd2, bnd3, bnd4, bndL2, if_true, if_false, Bool.false_eq_true, Bool.not_true, Bool.not_false, reduceIte, dAdd_int, dSub_int, dCmp_int, dEq_int, dNe_int, dLen_list, dLen_tup, dInt_int, dItems_list, dItems_tup, dListOf_list, dListOf_tup, dTuple_list, dTuple_tup, dLst_0, dTup_0, dLst_1, dTup_1, dLst_2, dTup_2, dLst_3, dTup_3, dLst_4, dTup_4, dLst_5, dTup_5, dLst_6, dTup_6, dLst_7, dTup_7, dLst_8, dTup_8, dLst_9, dTup_9, dLst_10, dTup_10, dLst_11, dTup_11, dLst_12, dTup_12, dIsN, dNeg_int, isI, dInt1, dZip, sameB_list h1 h2, all_true, dNe_bool, dEq_self (a := .int (l.length : Nat)) (k := 0) rfl (by decide), Bool.or_true, Bool.true_or, Bool.or_false, Bool.false_or, decide_true])
    simp
  | dict l => cases k <;> simp [pl] at hd
  | none => (try simp only [mCons, mB, mBB, mBL, mSeq, mBin, mBinL, mCmp, mChain, mOfB, mOfL, mTo, mIsI, mIsI2, mNot, mAnd, mOr, mIf, mIfx, mIfj, mRet, mRetL, mDo, mUnp, mSl, mSlL, mEnd, mApp, mExt, mRem, mStore, mRaise1, mPar, mParLL, mRng1, mRng2, mTRng, mLRng, mIxT, mStoreT, mDict1, mApp2, mPut2, mAppPop, M.bind_assoc, M.pure_bind, M.opt_some, M.raise_bind, callP_bind, callL_bind, callS_bind, callSL_bind, mForB_bind, mCompB_bind, mCompBL_bind, callP_0, callP_1, callP_2, callP_3, callP_4, callP_5, callP_6, callL_0, callL_1, callL_2, callL_3, callL_4, callL_5, callL_6, callS_0, callS_1, callS_2, callS_3, callS_4, callS_5, callS_6, callSL_0, callSL_1, callSL_2, callSL_3, callSL_4, M.pur_pure, M.pur_raise, M.nox_pure, retD_bind, retD_ret, retD_nx, retD_raise, retLst_bind, retLst_retL, retLst_raise, exits_bind, exits_ret, exits_retL, exits_brk, exits_cnt, exits_raise, andThen_bind, andThen_nx, andThen_ret, andThen_retL, andThen_brk, andThen_cnt, andThen_raise, bnd2, bnd3, bnd4, bndL2, if_true, if_false, Bool.false_eq_true, Bool.not_true, Bool.not_false, reduceIte, dAdd_int, dSub_int, dCmp_int, dEq_int, dNe_int, dLen_list, dLen_tup, dInt_int, dItems_list, dItems_tup, dListOf_list, dListOf_tup, dTuple_list, dTuple_tup, dLst_0, dTup_0, dLst_1, dTup_1, dLst_2, dTup_2, dLst_3, dTup_3, dLst_4, dTup_4, dLst_5, dTup_5, dLst_6, dTup_6, dLst_7, dTup_7, dLst_8, dTup_8, dLst_9, dTup_9, dLst_10, dTup_10, dLst_11, dTup_11, dLst_12, dTup_12, dIsN, dNeg_int, isI, dInt1, Bool.or_false, dEq_bool, dEq_self (a := .none) (k := 0) rfl (by decide), beq_self_eq_true])
  | bool b => (try simp only [mCons, mB, mBB, mBL, mSeq, mBin, mBinL, mCmp, mChain, mOfB, mOfL, mTo, mIsI, mIsI2, mNot, mAnd, mOr, mIf, mIfx, mIfj, mRet, mRetL, mDo, mUnp, mSl, mSlL, mEnd, mApp, mExt, mRem, mStore, mRaise1, mPar, mParLL, mRng1, mRng2, mTRng, mLRng, mIxT, mStoreT, mDict1, mApp2, mPut2, mAppPop, M.bind_assoc, M.pure_bind, M.opt_some, M.raise_bind, callP_bind, callL_bind, callS_bind, callSL_bind, mForB_bind, mCompB_bind, mCompBL_bind, callP_0, callP_1, callP_2, callP_3, callP_4, callP_5, callP_6, callL_0, callL_1, callL_2, callL_3, callL_4, callL_5, callL_6, callS_0, callS_1, callS_2, callS_3, callS_4, callS_5, callS_6, callSL_0, callSL_1, callSL_2, callSL_3, callSL_4, M.pur_pure, M.pur_raise, M.nox_pure, retD_bind, retD_ret, retD_nx, retD_raise, retLst_bind, retLst_retL, retLst_raise, exits_bind, exits_ret, exits_retL, exits_brk, exits_cnt, exits_raise, andThen_bind, andThen_nx, andThen_ret, andThen_retL, andThen_brk, andThen_cnt, andThen_raise, bnd2, bnd3, bnd4, bndL2, if_true, if_false, Bool.false_eq_true, Bool.not_true, Bool.not_false, reduceIte, dAdd_int, dSub_int, dCmp_int, dEq_int, dNe_int, dLen_list, dLen_tup, dInt_int, dItems_list, dItems_tup, dListOf_list, dListOf_tup, dTuple_list, dTuple_tup, dLst_0, dTup_0, dLst_1, dTup_1, dLst_2, dTup_2, dLst_3, dTup_3, dLst_4, dTup_4, dLst_5, dTup_5, dLst_6, dTup_6, dLst_7, dTup_7, dLst_8, dTup_8, dLst_9, dTup_9, dLst_10, dTup_10, dLst_11, dTup_11, dLst_12, dTup_12, dIsN, dNeg_int, isI, dInt1, Bool.or_false, dEq_bool, dEq_self (a := .bool b) (k := 0) rfl (by decide), beq_self_eq_true])
  | int i => (try simp only [mCons, mB, mBB, mBL, mSeq, mBin, mBinL, mCmp, mChain, mOfB, mOfL, mTo, mIsI, mIsI2, mNot, mAnd, mOr, mIf, mIfx, mIfj, mRet, mRetL, mDo, mUnp, mSl, mSlL, mEnd, mApp, mExt, mRem, mStore, mRaise1, mPar, mParLL, mRng1, mRng2, mTRng, mLRng, mIxT, mStoreT, mDict1, mApp2, mPut2, mAppPop, M.bind_assoc, M.pure_bind, M.opt_some, M.raise_bind, callP_bind, callL_bind, callS_bind, callSL_bind, mForB_bind, mCompB_bind, mCompBL_bind, callP_0, callP_1, callP_2, callP_3, callP_4, callP_5, callP_6, callL_0, callL_1, callL_2, callL_3, callL_4, callL_5, callL_6, callS_0, callS_1, callS_2, callS_3, callS_4, callS_5, callS_6, callSL_0, callSL_1, callSL_2, callSL_3, callSL_4, M.pur_pure, M.pur_raise, M.nox_pure, retD_bind, retD_ret, retD_nx, retD_raise, retLst_bind, retLst_retL, retLst_raise, exits_bind, exits_ret, exits_retL, exits_brk, exits_cnt, exits_raise, andThen_bind, andThen_nx, andThen_ret, andThen_retL, andThen_brk, andThen_cnt, andThen_raise, bnd2, bnd3, bnd4, bndL2, if_true, if_false, Bool.false_eq_true, Bool.not_true, Bool.not_false, reduceIte, dAdd_int, dSub_int, dCmp_int, dEq_int, dNe_int, dLen_list, dLen_tup, dInt_int, dItems_list, dItems_tup, dListOf_list, dListOf_tup, dTuple_list, dTuple_tup, dLst_0, dTup_0, dLst_1, dTup_1, dLst_2, dTup_2, dLst_3, dTup_3, dLst_4, dTup_4, dLst_5, dTup_5, dLst_6, dTup_6, dLst_7, dTup_7, dLst_8, dTup_8, dLst_9, dTup_9, dLst_10, dTup_10, dLst_11, dTup_11, dLst_12, dTup_12, dIsN, dNeg_int, isI, dInt1, Bool.or_false, dEq_bool, Bool.true_or, decide_true, beq_self_eq_true])
  | str x => (try simp only [mCons, mB, mBB, mBL, mSeq, mBin, mBinL, mCmp, mChain, mOfB, mOfL, mTo, mIsI, mIsI2, mNot, mAnd, mOr, mIf, mIfx, mIfj, mRet, mRetL, mDo, mUnp, mSl, mSlL, mEnd, mApp, mExt, mRem, mStore, mRaise1, mPar, mParLL, mRng1, mRng2, mTRng, mLRng, mIxT, mStoreT, mDict1, mApp2, mPut2, mAppPop, M.bind_assoc, M.pure_bind, M.opt_some, M.raise_bind, callP_bind, callL_bind, callS_bind, callSL_bind, mForB_bind, mCompB_bind, mCompBL_bind, callP_0, callP_1, callP_2, callP_3, callP_4, callP_5, callP_6, callL_0, callL_1, callL_2, callL_3, callL_4, callL_5, callL_6, callS_0, callS_1, callS_2, callS_3, callS_4, callS_5, callS_6, callSL_0, callSL_1, callSL_2, callSL_3, callSL_4, M.pur_pure, M.pur_raise, M.nox_pure, retD_bind, retD_ret, retD_nx, retD_raise, retLst_bind, retLst_retL, retLst_raise, exits_bind, exits_ret, exits_retL, exits_brk, exits_cnt, exits_raise, andThen_bind, andThen_nx, andThen_ret, andThen_retL, andThen_brk, andThen_cnt, andThen_raise, bnd2, bnd3, bnd4, bndL2, if_true, if_false, Bool.false_eq_true, Bool.not_true, Bool.not_false, reduceIte, dAdd_int, dSub_int, dCmp_int, dEq_int, dNe_int, dLen_list, dLen_tup, dInt_int, dItems_list, dItems_tup, dListOf_list, dListOf_tup, dTuple_list, dTuple_tup, dLst_0, dTup_0, dLst_1, dTup_1, dLst_2, dTup_2, dLst_3, dTup_3, dLst_4, dTup_4, dLst_5, dTup_5, dLst_6, dTup_6, dLst_7, dTup_7, dLst_8, dTup_8, dLst_9, dTup_9, dLst_10, dTup_10, dLst_11, dTup_11, dLst_12, dTup_12, dIsN, dNeg_int, isI, dInt1, Bool.or_false, Bool.or_true, dEq_bool, dEq_self (a := .str x) hd hk, beq_self_eq_true])
theorem same_self_0 {d : D} (hd : pl 0 d = true) : M__law_same_0 [d, d] = M.pure (.bool true) := by
  show retD (B__law_same_0 d d) = _
  rw [same_eq_0]
  exact sameB_self hd (fun l e => by rcases e with rfl | rfl <;> simp [pl] at hd) (by decide)
theorem same_self_1 {d : D} (hd : pl 1 d = true) : M__law_same_1 [d, d] = M.pure (.bool true) := by
  show retD (B__law_same_1 d d) = _
  rw [same_eq_1]
  refine sameB_self hd (fun l e => ?_) (by decide)
  have hl : l.length ≤ 1000000 ∧ ∀ x ∈ l, pl 0 x = true := by
    rcases e with rfl | rfl <;> simpa [pl] using hd
  exact ⟨hl.1, fun x hx => by
    show M.pur (M__law_same_0 [x, x]) = _
    rw [same_self_0 (hl.2 x hx)]
    rfl⟩
theorem same_self_2 {d : D} (hd : pl 2 d = true) : M__law_same_2 [d, d] = M.pure (.bool true) := by
  show retD (B__law_same_2 d d) = _
  rw [same_eq_2]
  refine sameB_self hd (fun l e => ?_) (by decide)
  have hl : l.length ≤ 1000000 ∧ ∀ x ∈ l, pl 1 x = true := by
    rcases e with rfl | rfl <;> simpa [pl] using hd
  exact ⟨hl.1, fun x hx => by
    show M.pur (M__law_same_1 [x, x]) = _
    rw [same_self_1 (hl.2 x hx)]
    rfl⟩
theorem same_self_3 {d : D} (hd : pl 3 d = true) : M__law_same_3 [d, d] = M.pure (.bool true) := by
  show retD (B__law_same_3 d d) = _
  rw [same_eq_3]
  refine sameB_self hd (fun l e => ?_) (by decide)
  have hl : l.length ≤ 1000000 ∧ ∀ x ∈ l, pl 2 x = true := by
    rcases e with rfl | rfl <;> simpa [pl] using hd
  exact ⟨hl.1, fun x hx => by
    show M.pur (M__law_same_2 [x, x]) = _
    rw [same_self_2 (hl.2 x hx)]
    rfl⟩
theorem same_self_4 {d : D} (hd : pl 4 d = true) : M__law_same_4 [d, d] = M.pure (.bool true) := by
  show retD (B__law_same_4 d d) = _
  rw [same_eq_4]
  refine sameB_self hd (fun l e => ?_) (by decide)
  have hl : l.length ≤ 1000000 ∧ ∀ x ∈ l, pl 3 x = true := by
    rcases e with rfl | rfl <;> simpa [pl] using hd
  exact ⟨hl.1, fun x hx => by
    show M.pur (M__law_same_3 [x, x]) = _
    rw [same_self_3 (hl.2 x hx)]
    rfl⟩
end Law
end
section
set_option Elab.async false
set_option linter.all false
set_option maxRecDepth 100000
set_option maxHeartbeats 400000
namespace Law
open PySem PySem.Spec PyProof.Rows L2 Sim
theorem mFor_pure {α β : Type} {f : D → α → M (Out α α)} (I : Nat → α → Prop) : ∀ {l : List D} {n : Nat} {a : α}, I n a → (∀ i d a, l[i]? = some d → I (n + i) a → ∃ a', f d a = M.pure (.nx a') ∧ I (n + i + 1) a') → ∃ a', (mFor f l a : M (Out α β)) = M.pure (.nx a') ∧ I (n + l.length) a'
  | [], n, a, h, _ => ⟨a, rfl, h⟩
  | d :: r, n, a, h, k => by
    obtain ⟨a', e, h'⟩ := k 0 d a rfl h
    obtain ⟨a2, e2, h2⟩ := mFor_pure (f := f) I (l := r) (n := n + 1) (a := a') h' fun i d a hd hi => by
      have := k (i + 1) d a (by simpa using hd) (by rw [show n + (i + 1) = n + 1 + i by omega]; exact hi)
      rw [show n + (i + 1) + 1 = n + 1 + i + 1 by omega] at this
      exact this
    refine ⟨a2, ?_, by rw [show n + (d :: r).length = n + 1 + r.length by simp; omega]; exact h2⟩
    rw [← e2]
    exact mFor_cons e
theorem mForB_pure {ι α β γ : Type} {bnd : D → Option ι} {F : ι → α → M (Out α α)} {l : List D} {a0 : α} {k : α → M (Out γ β)} (I : Nat → α → Prop) (h0 : I 0 a0)
    (hf : ∀ i d a, l[i]? = some d → I i a → ∃ x, bnd d = some x ∧ ∃ a', F x a = M.pure (.nx a') ∧ I (i + 1) a') : ∃ a, mForB (M.pure l) bnd F a0 k = k a ∧ I l.length a := by
  obtain ⟨a, e, h⟩ := mFor_pure (β := β) (f := fun d a => M.bind (M.opt (bnd d)) fun x => F x a) I (l := l) (n := 0) h0 fun i d a hd hi => by
    rw [Nat.zero_add] at hi ⊢
    obtain ⟨x, ex, a', ea, h'⟩ := hf i d a hd hi
    refine ⟨a', ?_, h'⟩
    rw [ex]
    exact ea
  refine ⟨a, ?_, by simpa using h⟩
  unfold mForB
  rw [M.pure_bind, e]
  rfl
theorem mComp_filter {ft : D → M Bool} {p : D → Bool} : ∀ {l acc : List D}, (∀ d ∈ l, ft d = M.pure (p d)) → mComp some ft (fun x => M.pure x) l acc = M.pure (acc ++ l.filter p)
  | [], acc, _ => by simp [mComp]
  | d :: l, acc, k => by
    have ht : mTurn some ft (fun x => M.pure x) d = M.pure (if p d then some d else none) := by
      unfold mTurn
      show M.nox (M.bind (ft d) _) = _
      rw [k d (by simp)]
      cases p d <;> rfl
    unfold mComp
    rw [ht]
    show mComp some ft _ l (acc ++ (if p d = true then some d else none).toList) = _
    rw [mComp_filter fun d hd => k d (List.mem_cons_of_mem _ hd)]
    cases e : p d <;> simp [e]
theorem mCompB_filter {ft : D → M Bool} {p : D → Bool} {l : List D} (hl : l.length ≤ 1000000) (k : ∀ d ∈ l, ft d = M.pure (p d)) : mCompB (M.pure l) some ft (fun x => M.pure x) = M.pure (l.filter p) := by
  unfold mCompB
  rw [M.pure_bind, lim_ok hl, M.pure_bind, mComp_filter k]
  rfl
/-! ### rows -/
def RowsI (rows : List D) : Prop := ∀ d ∈ rows, ∃ u v g : Int, d = .tuple [.int u, .int v, .int g]
theorem fb_rowsI {ps : List Int} : ∀ {rows : List D} {h : List (List Int)}, fb ps h rows = none → RowsI rows
  | [], _, _ => fun d hd => absurd hd (by simp)
  | d :: r, h, e => by
    unfold fb at e
    by_cases hg : goesD h ps d = true
    · rw [if_pos hg, Option.map_eq_none_iff] at e
      obtain ⟨u, v, g, rfl, _⟩ := goesD_int hg
      intro x hx
      rcases List.mem_cons.mp hx with rfl | hx
      · exact ⟨u, v, g, rfl⟩
      · exact fb_rowsI e x hx
    · rw [if_neg hg] at e
      cases e
def endH (h : List (List Int)) (rows : List D) : List (List Int) := rows.foldl step h
theorem fb_snoc {ps : List Int} : ∀ {rows : List D} {h : List (List Int)} {d : D}, fb ps h rows = none → goesD (endH h rows) ps d = true → fb ps h (rows ++ [d]) = none
  | [], h, d, _, g => by
    show (if goesD h ps d = true then _ else _) = none
    rw [if_pos (show goesD h ps d = true from g)]
    rfl
  | x :: r, h, d, e, g => by
    rw [List.cons_append]
    unfold fb at e ⊢
    by_cases hg : goesD h ps x = true
    · rw [if_pos hg, Option.map_eq_none_iff] at e ⊢
      exact fb_snoc e g
    · rw [if_neg hg] at e
      cases e
theorem fb_take {ps : List Int} : ∀ {rows : List D} {h : List (List Int)} (n : Nat), fb ps h rows = none → fb ps h (rows.take n) = none
  | [], h, n, _ => by simp [fb]
  | x :: r, h, 0, _ => rfl
  | x :: r, h, n + 1, e => by
    rw [List.take_succ_cons]
    unfold fb at e ⊢
    by_cases hg : goesD h ps x = true
    · rw [if_pos hg, Option.map_eq_none_iff] at e ⊢
      exact fb_take n e
    · rw [if_neg hg] at e
      cases e
theorem bk_T {h : List (List Int)} (hh : HallT h) {u : Int} (h0 : 0 ≤ u) (h1 : u < h.length) : BookT h.length (bk h u) := hh.2.2 _ (bk_mem h0 h1)
theorem putT_T {n : Nat} {b : List Int} {o c : Int} (hb : BookT n b) (ho : o ∈ b) (hc : 0 ≤ c ∧ c < (n : Int)) : BookT n (putT b o c) := by
  refine ⟨by rw [putT_len ho]; exact hb.1, srt_sorted _, fun x hx => ?_⟩
  have := (srt_perm _).mem_iff.mp hx
  rcases List.mem_append.mp this with z | z
  · exact hb.2.2 x (List.mem_of_mem_erase z)
  · simp at z
    subst z
    exact hc
theorem doneT_T {h : List (List Int)} {ps : List Int} {u v g : Int} (hh : HallT h) (e : goesT h ps u v g = true) : HallT (doneT h u v g) := by
  obtain ⟨⟨u0, u1⟩, ⟨v0, v1⟩, hg, _, _, _, hvu, hgv⟩ := goesT_in e
  have hl : (doneT h u v g).length = h.length := by simp [doneT]
  refine ⟨by rw [hl]; exact hh.1, by rw [hl]; exact hh.2.1, fun b hb => ?_⟩
  rw [hl]
  rcases doneT_mem hb with z | z | z
  · exact hh.2.2 b z
  · rw [z]; exact putT_T (bk_T hh u0 u1) hvu hg
  · rw [z]; exact putT_T (bk_T hh v0 v1) hgv ⟨u0, u1⟩
theorem doneT_len {h : List (List Int)} {u v g : Int} : (doneT h u v g).length = h.length := by simp [doneT]
/-! ### the law's own account -/
def spT (r : List Int) : D → List Int
  | .tuple [.int u, .int v, .int _] => if r.contains u && !r.contains v then r ++ [v] else if r.contains v && !r.contains u then r ++ [u] else r
  | _ => r
theorem spT_len (r : List Int) (d : D) : (spT r d).length ≤ r.length + 1 := by
  unfold spT
  split
  · split
    · simp
    · split <;> simp
  · simp
theorem sp_len : ∀ (rows : List D) (kn : List Int), (rows.foldl spT kn).length ≤ kn.length + rows.length
  | [], kn => by simp
  | d :: r, kn => by
    have := spT_len kn d
    have := sp_len r (spT kn d)
    simp only [List.foldl_cons, List.length_cons]
    omega
theorem m_spreadX {rows : List D} {kn : List Int} (hr : RowsI rows) (hl : kn.length + rows.length ≤ 1000000) : M__law_spread [.list rows, encB kn] = M.pure (encB (srt (rows.foldl spT kn))) := by
  show retD (B__law_spread (.list rows) (encB kn)) = _
  unfold B__law_spread
  have e1 : dListOf [encB kn] = some (kn.map .int) := rfl
  (try simp only [mCons, mB, mBB, mBL, mSeq, mBin, mBinL, mCmp, mChain, mOfB, mOfL, mTo, mIsI, mIsI2, mNot, mAnd, mOr, mIf, mIfx, mIfj, mRet, mRetL, mDo, mUnp, mSl, mSlL, mEnd, mApp, mExt, mRem, mStore, mRaise1, mPar, mParLL, mRng1, mRng2, mTRng, mLRng, mIxT, mStoreT, mDict1, mApp2, mPut2, mAppPop, M.bind_assoc, M.pure_bind, M.opt_some, M.raise_bind, callP_bind, callL_bind, callS_bind, callSL_bind, mForB_bind, mCompB_bind, mCompBL_bind, callP_0, callP_1, callP_2, callP_3, callP_4, callP_5, callP_6, callL_0, callL_1, callL_2, callL_3, callL_4, callL_5, callL_6, callS_0, callS_1, callS_2, callS_3, callS_4, callS_5, callS_6, callSL_0, callSL_1, callSL_2, callSL_3, callSL_4, M.pur_pure, M.pur_raise, M.nox_pure, retD_bind, retD_ret, retD_nx, retD_raise, retLst_bind, retLst_retL, retLst_raise, exits_bind, exits_ret, exits_retL, exits_brk, exits_cnt, exits_raise, andThen_bind, andThen_nx, andThen_ret, andThen_retL, andThen_brk, andThen_cnt, andThen_raise, bnd2, bnd3, bnd4, bndL2, if_true, if_false, Bool.false_eq_true, Bool.not_true, Bool.not_false, reduceIte, dAdd_int, dSub_int, dCmp_int, dEq_int, dNe_int, dLen_list, dLen_tup, dInt_int, dItems_list, dItems_tup, dListOf_list, dListOf_tup, dTuple_list, dTuple_tup, dLst_0, dTup_0, dLst_1, dTup_1, dLst_2, dTup_2, dLst_3, dTup_3, dLst_4, dTup_4, dLst_5, dTup_5, dLst_6, dTup_6, dLst_7, dTup_7, dLst_8, dTup_8, dLst_9, dTup_9, dLst_10, dTup_10, dLst_11, dTup_11, dLst_12, dTup_12, dIsN, dNeg_int, isI, dInt1, e1])
  obtain ⟨a, ea, rfl⟩ := mForB_pure (γ := Unit) (β := Unit) (l := rows) (bnd := bnd3) (F := fun xuvg afound =>
      (mIfj (δ := List D) (mAnd (M.bind (M.pure xuvg.1) fun d => M.opt (dInF d afound)) (M.bind (M.pure xuvg.2.1) fun d => M.opt (dNotInF d afound))) (mApp afound (M.pure xuvg.2.1) (fun v_found => (M.pure (.nx v_found)))) (mIfj (δ := List D) (mAnd (M.bind (M.pure xuvg.2.1) fun d => M.opt (dInF d afound)) (M.bind (M.pure xuvg.1) fun d => M.opt (dNotInF d afound))) (mApp afound (M.pure xuvg.1) (fun v_found => (M.pure (.nx v_found)))) (M.pure (.nx afound)) (fun jfound =>
   (M.pure (.nx jfound)))) (fun jfound =>
   (M.pure (.nx jfound))))) (a0 := kn.map PyData.int) (k := fun afound => (mRet (mB dTuple (mCons (mOfL (mBL dSorted (mCons (M.pure (.list afound)) (M.pure [])))) (M.pure [])))))
    (fun i acc => acc = ((rows.take i).foldl spT kn).map .int) rfl fun i d acc hd er => by
      subst er
      have hn : (rows.take (i + 1)).foldl spT kn = spT ((rows.take i).foldl spT kn) d := by
        rw [List.take_add_one, hd, Option.toList_some, List.foldl_append]
        rfl
      have hr' := sp_len (rows.take i) kn
      rw [List.length_take] at hr'
      rw [hn]
      generalize (rows.take i).foldl spT kn = r at *
      obtain ⟨u, v, g, rfl⟩ := hr d (List.mem_of_getElem? hd)
      have hi : i < rows.length := (List.getElem?_eq_some_iff.mp hd).1
      refine ⟨_, rfl, ?_⟩
      have e2 : ∀ x : Int, dApp (r.map .int) (.int x) = some ((r ++ [x]).map .int) := fun x => by
        simp [dApp]
        omega
      (try simp only [mCons, mB, mBB, mBL, mSeq, mBin, mBinL, mCmp, mChain, mOfB, mOfL, mTo, mIsI, mIsI2, mNot, mAnd, mOr, mIf, mIfx, mIfj, mRet, mRetL, mDo, mUnp, mSl, mSlL, mEnd, mApp, mExt, mRem, mStore, mRaise1, mPar, mParLL, mRng1, mRng2, mTRng, mLRng, mIxT, mStoreT, mDict1, mApp2, mPut2, mAppPop, M.bind_assoc, M.pure_bind, M.opt_some, M.raise_bind, callP_bind, callL_bind, callS_bind, callSL_bind, mForB_bind, mCompB_bind, mCompBL_bind, callP_0, callP_1, callP_2, callP_3, callP_4, callP_5, callP_6, callL_0, callL_1, callL_2, callL_3, callL_4, callL_5, callL_6, callS_0, callS_1, callS_2, callS_3, callS_4, callS_5, callS_6, callSL_0, callSL_1, callSL_2, callSL_3, callSL_4, M.pur_pure, M.pur_raise, M.nox_pure, retD_bind, retD_ret, retD_nx, retD_raise, retLst_bind, retLst_retL, retLst_raise, exits_bind, exits_ret, exits_retL, exits_brk, exits_cnt, exits_raise, andThen_bind, andThen_nx, andThen_ret, andThen_retL, andThen_brk, andThen_cnt, andThen_raise, bnd2, bnd3, bnd4, bndL2, if_true, if_false, Bool.false_eq_true, Bool.not_true, Bool.not_false, reduceIte, dAdd_int, dSub_int, dCmp_int, dEq_int, dNe_int, dLen_list, dLen_tup, dInt_int, dItems_list, dItems_tup, dListOf_list, dListOf_tup, dTuple_list, dTuple_tup, dLst_0, dTup_0, dLst_1, dTup_1, dLst_2, dTup_2, dLst_3, dTup_3, dLst_4, dTup_4, dLst_5, dTup_5, dLst_6, dTup_6, dLst_7, dTup_7, dLst_8, dTup_8, dLst_9, dTup_9, dLst_10, dTup_10, dLst_11, dTup_11, dLst_12, dTup_12, dIsN, dNeg_int, isI, dInt1, dInF_ints, dNotInF, Option.map_some, e2])
      cases hu : r.contains u <;> cases hv : r.contains v <;> (try simp only [mCons, mB, mBB, mBL, mSeq, mBin, mBinL, mCmp, mChain, mOfB, mOfL, mTo, mIsI, mIsI2, mNot, mAnd, mOr, mIf, mIfx, mIfj, mRet, mRetL, mDo, mUnp, mSl, mSlL, mEnd, mApp, mExt, mRem, mStore, mRaise1, mPar, mParLL, mRng1, mRng2, mTRng, mLRng, mIxT, mStoreT, mDict1, mApp2, mPut2, mAppPop, M.bind_assoc, M.pure_bind, M.opt_some, M.raise_bind, callP_bind, callL_bind, callS_bind, callSL_bind, mForB_bind, mCompB_bind, mCompBL_bind, callP_0, callP_1, callP_2, callP_3, callP_4, callP_5, callP_6, callL_0, callL_1, callL_2, callL_3, callL_4, callL_5, callL_6, callS_0, callS_1, callS_2, callS_3, callS_4, callS_5, callS_6, callSL_0, callSL_1, callSL_2, callSL_3, callSL_4, M.pur_pure, M.pur_raise, M.nox_pure, retD_bind, retD_ret, retD_nx, retD_raise, retLst_bind, retLst_retL, retLst_raise, exits_bind, exits_ret, exits_retL, exits_brk, exits_cnt, exits_raise, andThen_bind, andThen_nx, andThen_ret, andThen_retL, andThen_brk, andThen_cnt, andThen_raise, bnd2, bnd3, bnd4, bndL2, if_true, if_false, Bool.false_eq_true, Bool.not_true, Bool.not_false, reduceIte, dAdd_int, dSub_int, dCmp_int, dEq_int, dNe_int, dLen_list, dLen_tup, dInt_int, dItems_list, dItems_tup, dListOf_list, dListOf_tup, dTuple_list, dTuple_tup, dLst_0, dTup_0, dLst_1, dTup_1, dLst_2, dTup_2, dLst_3, dTup_3, dLst_4, dTup_4, dLst_5, dTup_5, dLst_6, dTup_6, dLst_7, dTup_7, dLst_8, dTup_8, dLst_9, dTup_9, dLst_10, dTup_10, dLst_11, dTup_11, dLst_12, dTup_12, dIsN, dNeg_int, isI, dInt1, hu, hv])
      · exact ⟨_, rfl, by simp only [spT, hu, hv, Bool.not_false, Bool.not_true, Bool.and_true, Bool.and_false, Bool.false_eq_true, if_true, if_false]⟩
      · exact ⟨_, rfl, by simp only [spT, hu, hv, Bool.not_false, Bool.not_true, Bool.and_true, Bool.and_false, Bool.false_eq_true, if_true, if_false]⟩
      · exact ⟨_, rfl, by simp only [spT, hu, hv, Bool.not_false, Bool.not_true, Bool.and_true, Bool.and_false, Bool.false_eq_true, if_true, if_false]⟩
      · exact ⟨_, rfl, by simp only [spT, hu, hv, Bool.not_false, Bool.not_true, Bool.and_true, Bool.and_false, Bool.false_eq_true, if_true, if_false]⟩
  have ea' := congrArg retD ea
  have hsl := sp_len rows kn
  rw [List.take_length] at ea'
  have e3 := sorted_ints (b := rows.foldl spT kn) (by omega)
  revert ea'
  (try simp only [mCons, mB, mBB, mBL, mSeq, mBin, mBinL, mCmp, mChain, mOfB, mOfL, mTo, mIsI, mIsI2, mNot, mAnd, mOr, mIf, mIfx, mIfj, mRet, mRetL, mDo, mUnp, mSl, mSlL, mEnd, mApp, mExt, mRem, mStore, mRaise1, mPar, mParLL, mRng1, mRng2, mTRng, mLRng, mIxT, mStoreT, mDict1, mApp2, mPut2, mAppPop, M.bind_assoc, M.pure_bind, M.opt_some, M.raise_bind, callP_bind, callL_bind, callS_bind, callSL_bind, mForB_bind, mCompB_bind, mCompBL_bind, callP_0, callP_1, callP_2, callP_3, callP_4, callP_5, callP_6, callL_0, callL_1, callL_2, callL_3, callL_4, callL_5, callL_6, callS_0, callS_1, callS_2, callS_3, callS_4, callS_5, callS_6, callSL_0, callSL_1, callSL_2, callSL_3, callSL_4, M.pur_pure, M.pur_raise, M.nox_pure, retD_bind, retD_ret, retD_nx, retD_raise, retLst_bind, retLst_retL, retLst_raise, exits_bind, exits_ret, exits_retL, exits_brk, exits_cnt, exits_raise, andThen_bind, andThen_nx, andThen_ret, andThen_retL, andThen_brk, andThen_cnt, andThen_raise, bnd2, bnd3, bnd4, bndL2, if_true, if_false, Bool.false_eq_true, Bool.not_true, Bool.not_false, reduceIte, dAdd_int, dSub_int, dCmp_int, dEq_int, dNe_int, dLen_list, dLen_tup, dInt_int, dItems_list, dItems_tup, dListOf_list, dListOf_tup, dTuple_list, dTuple_tup, dLst_0, dTup_0, dLst_1, dTup_1, dLst_2, dTup_2, dLst_3, dTup_3, dLst_4, dTup_4, dLst_5, dTup_5, dLst_6, dTup_6, dLst_7, dTup_7, dLst_8, dTup_8, dLst_9, dTup_9, dLst_10, dTup_10, dLst_11, dTup_11, dLst_12, dTup_12, dIsN, dNeg_int, isI, dInt1, e3])
  exact id
theorem m_spread {rows : List D} {kn : List Int} (hr : RowsI rows) (hl : kn.length + rows.length ≤ 1000000) : ∃ r : List Int, M__law_spread [.list rows, encB kn] = M.pure (encB r) ∧ r.length ≤ kn.length + rows.length :=
  ⟨_, m_spreadX hr hl, by rw [(srt_perm _).length_eq]; exact sp_len _ _⟩
end Law
end
section
set_option Elab.async false
set_option linter.all false
set_option maxRecDepth 100000
set_option maxHeartbeats 400000
namespace Law
open PySem PySem.Spec PyProof.Rows L2 Sim
theorem mForB_to {ι α β γ : Type} {bnd : D → Option ι} {F : ι → α → M (Out α α)} {l : List D} {a0 : α} {k : α → M (Out γ β)} {G : M (Out γ β) → Prop} (I : Nat → α → Prop) (h0 : I 0 a0)
    (hf : ∀ i d a, l[i]? = some d → I i a → ∃ x, bnd d = some x ∧ ∃ a', F x a = M.pure (.nx a') ∧ I (i + 1) a') (hk : ∀ a, I l.length a → G (k a)) : G (mForB (M.pure l) bnd F a0 k) := by
  obtain ⟨a, e, h⟩ := mForB_pure (k := k) I h0 hf
  rw [e]
  exact hk a h
/-- one row of _law_first_bad -/
def fbF (ps : D) : D × D → D → M (Out D D) := fun xatthing ahall =>
 (mIfx (mNot (mTo (callP 3 M__law_goes (mCons (M.pure ahall) (mCons (M.pure ps) (mCons (M.pure xatthing.2) (M.pure []))))))) (mRet (M.pure xatthing.1))
 (M.bind (callP 2 M__law_done (mCons (M.pure ahall) (mCons (M.pure xatthing.2) (M.pure [])))) fun v_hall => (M.pure (.nx v_hall))))
def optD : Option Nat → D
  | none => .none
  | some i => .int (i : Nat)
theorem fb_loop {ps : List Int} : ∀ {rows : List D} {h : List (List Int)} {k : Nat}, (∀ d ∈ rows, Sm d) → Sb h → h.length ≤ 1000 →
    retD (andThen (mFor (fun d a => M.bind (M.opt (bnd2 d)) fun x => fbF (encB ps) x a) (enumF k rows) (encH h) : M (Out D Unit)) fun _ => (M.pure (.ret .none) : M (Out Unit Unit))) = M.pure (optD ((fb ps h rows).map (k + ·)))
  | [], h, k, _, _, _ => rfl
  | d :: r, h, k, hd, hs, hl => by
    have e0 := m_law_goes h ps d (hd d (by simp))
    unfold fb
    cases hg : goesD h ps d with
    | false =>
      have ef : (M.bind (M.opt (bnd2 (.tuple [.int (k : Nat), d]))) fun x => fbF (encB ps) x (encH h)) = M.pure (.ret (.int (k : Nat))) := by
        (try simp only [mCons, mB, mBB, mBL, mSeq, mBin, mBinL, mCmp, mChain, mOfB, mOfL, mTo, mIsI, mIsI2, mNot, mAnd, mOr, mIf, mIfx, mIfj, mRet, mRetL, mDo, mUnp, mSl, mSlL, mEnd, mApp, mExt, mRem, mStore, mRaise1, mPar, mParLL, mRng1, mRng2, mTRng, mLRng, mIxT, mStoreT, mDict1, mApp2, mPut2, mAppPop, M.bind_assoc, M.pure_bind, M.opt_some, M.raise_bind, callP_bind, callL_bind, callS_bind, callSL_bind, mForB_bind, mCompB_bind, mCompBL_bind, callP_0, callP_1, callP_2, callP_3, callP_4, callP_5, callP_6, callL_0, callL_1, callL_2, callL_3, callL_4, callL_5, callL_6, callS_0, callS_1, callS_2, callS_3, callS_4, callS_5, callS_6, callSL_0, callSL_1, callSL_2, callSL_3, callSL_4, M.pur_pure, M.pur_raise, M.nox_pure, retD_bind, retD_ret, retD_nx, retD_raise, retLst_bind, retLst_retL, retLst_raise, exits_bind, exits_ret, exits_retL, exits_brk, exits_cnt, exits_raise, andThen_bind, andThen_nx, andThen_ret, andThen_retL, andThen_brk, andThen_cnt, andThen_raise, bnd2, bnd3, bnd4, bndL2, if_true, if_false, Bool.false_eq_true, Bool.not_true, Bool.not_false, reduceIte, dAdd_int, dSub_int, dCmp_int, dEq_int, dNe_int, dLen_list, dLen_tup, dInt_int, dItems_list, dItems_tup, dListOf_list, dListOf_tup, dTuple_list, dTuple_tup, dLst_0, dTup_0, dLst_1, dTup_1, dLst_2, dTup_2, dLst_3, dTup_3, dLst_4, dTup_4, dLst_5, dTup_5, dLst_6, dTup_6, dLst_7, dTup_7, dLst_8, dTup_8, dLst_9, dTup_9, dLst_10, dTup_10, dLst_11, dTup_11, dLst_12, dTup_12, dIsN, dNeg_int, isI, dInt1, fbF, e0, hg, mTo_pure, dBool])
      rw [enumF, mFor, ef]
      rfl
    | true =>
      obtain ⟨u, v, g, rfl, eg⟩ := goesD_int hg
      have ih := fb_loop (ps := ps) (rows := r) (h := doneT h u v g) (k := k + 1) (fun d hd' => hd d (List.mem_cons_of_mem _ hd')) (step_sb eg hs) (by rw [doneT_len]; exact hl)
      have ef : (M.bind (M.opt (bnd2 (.tuple [.int (k : Nat), .tuple [.int u, .int v, .int g]]))) fun x => fbF (encB ps) x (encH h)) = M.pure (.nx (encH (doneT h u v g))) := by
        (try simp only [mCons, mB, mBB, mBL, mSeq, mBin, mBinL, mCmp, mChain, mOfB, mOfL, mTo, mIsI, mIsI2, mNot, mAnd, mOr, mIf, mIfx, mIfj, mRet, mRetL, mDo, mUnp, mSl, mSlL, mEnd, mApp, mExt, mRem, mStore, mRaise1, mPar, mParLL, mRng1, mRng2, mTRng, mLRng, mIxT, mStoreT, mDict1, mApp2, mPut2, mAppPop, M.bind_assoc, M.pure_bind, M.opt_some, M.raise_bind, callP_bind, callL_bind, callS_bind, callSL_bind, mForB_bind, mCompB_bind, mCompBL_bind, callP_0, callP_1, callP_2, callP_3, callP_4, callP_5, callP_6, callL_0, callL_1, callL_2, callL_3, callL_4, callL_5, callL_6, callS_0, callS_1, callS_2, callS_3, callS_4, callS_5, callS_6, callSL_0, callSL_1, callSL_2, callSL_3, callSL_4, M.pur_pure, M.pur_raise, M.nox_pure, retD_bind, retD_ret, retD_nx, retD_raise, retLst_bind, retLst_retL, retLst_raise, exits_bind, exits_ret, exits_retL, exits_brk, exits_cnt, exits_raise, andThen_bind, andThen_nx, andThen_ret, andThen_retL, andThen_brk, andThen_cnt, andThen_raise, bnd2, bnd3, bnd4, bndL2, if_true, if_false, Bool.false_eq_true, Bool.not_true, Bool.not_false, reduceIte, dAdd_int, dSub_int, dCmp_int, dEq_int, dNe_int, dLen_list, dLen_tup, dInt_int, dItems_list, dItems_tup, dListOf_list, dListOf_tup, dTuple_list, dTuple_tup, dLst_0, dTup_0, dLst_1, dTup_1, dLst_2, dTup_2, dLst_3, dTup_3, dLst_4, dTup_4, dLst_5, dTup_5, dLst_6, dTup_6, dLst_7, dTup_7, dLst_8, dTup_8, dLst_9, dTup_9, dLst_10, dTup_10, dLst_11, dTup_11, dLst_12, dTup_12, dIsN, dNeg_int, isI, dInt1, fbF, e0, hg, mTo_pure, dBool, m_law_done eg hs hl])
      rw [enumF, mFor, ef]
      refine ih.trans ?_
      show _ = M.pure (optD (((fb ps (doneT h u v g) r).map (· + 1)).map (k + ·)))
      cases fb ps (doneT h u v g) r with
      | none => rfl
      | some i =>
        show M.pure (PyData.int ((k + 1 + i : Nat) : Int)) = M.pure (PyData.int ((k + (i + 1) : Nat) : Int))
        rw [show k + 1 + i = k + (i + 1) by omega]
theorem m_first_bad {ps : List Int} {rows : List D} {h : List (List Int)} (hd : ∀ d ∈ rows, Sm d) (hs : Sb h) (hl : h.length ≤ 1000) : M__law_first_bad [encH h, encB ps, .list rows] = M.pure (optD (fb ps h rows)) := by
  have e : M__law_first_bad [encH h, encB ps, .list rows] = retD (andThen (mFor (fun d a => M.bind (M.opt (bnd2 d)) fun x => fbF (encB ps) x a) (enumD rows) (encH h) : M (Out D Unit)) fun _ => (M.pure (.ret .none) : M (Out Unit Unit))) := rfl
  rw [e, enumD_F, fb_loop hd hs hl]
  cases fb ps h rows with
  | none => rfl
  | some i => simp [optD]
theorem m_first_bad_no {H P d : D} (h : ∀ l, d ≠ .list l) : M__law_first_bad [H, P, d] = M.pure (.int (-1)) := by
  cases d with
  | list l => exact absurd rfl (h l)
  | _ => rfl
/-! ### told -/
theorem m_halls_of {ps : List Int} {rows : List D} {h : List (List Int)} (hl : rows.length ≤ 900000) (hd : ∀ d ∈ rows, Sm d) (hs : Sb h) :
    (match fb ps h rows with
      | none => ∃ l, M_halls_of [encH h, encB ps, .list rows] = M.pure l
      | some i => M_halls_of [encH h, encB ps, .list rows] = M.raise ⟨"BadRows", [("at", .int (i : Nat))]⟩) := by
  have e : M_halls_of [encH h, encB ps, .list rows] = retLst (andThen (mFor (rowF (encB ps)) (enumD rows) [encH h] : M (Out (List D) Unit)) fun l => (M.pure (.retL l) : M (Out Unit Unit))) := rfl
  have := halls_loop (ps := ps) (rows := rows) (h := h) (k := 0) (acc := [encH h]) rfl (by omega) (by simp; omega) hd hs
  cases q : fb ps h rows with
  | none =>
    rw [q] at this
    obtain ⟨l, el⟩ := this
    exact ⟨l, by rw [e, enumD_F, el]; rfl⟩
  | some i =>
    rw [q] at this
    show M_halls_of _ = _
    rw [e, enumD_F, this, Nat.zero_add]
    rfl
theorem m_halls_of_no {H P d : D} (h : ∀ l, d ≠ .list l) : M_halls_of [H, P, d] = M.raise ⟨"BadRows", [("at", .int (-1))]⟩ := by
  cases d with
  | list l => exact absurd rfl (h l)
  | _ => rfl
theorem told_spread : M_knowing_behind = M__law_spread := rfl
section
variable {h : List (List Int)} {ps : List Int} {rows : List D} {kn : D}
theorem told_goes (hh : HallT h) (hp : PlayT h.length ps) (hl : rows.length ≤ 900000) (hd : ∀ d ∈ rows, Sm d) (hf : fb ps h rows = none) (hk : riseB h.length kn = true) (hks : Sm kn) :
    M_told [encH h, encB ps, .list rows, kn] = M.pur (M__law_spread [.list rows, kn]) := by
  show retD (B_told (encH h) (encB ps) (.list rows) kn) = _
  unfold B_told
  have e1 := m_halls_of (ps := ps) hl hd hh.sb
  rw [hf] at e1
  obtain ⟨l, e1⟩ := e1
  have e2 : M_check_knowing [encH h, kn] = M.pure .none := by
    rw [m_check_knowing _ _ (hallB_iff.mpr ⟨h, rfl, hh⟩) hks, lenD_encH, hk]
    rfl
  (try simp only [mCons, mB, mBB, mBL, mSeq, mBin, mBinL, mCmp, mChain, mOfB, mOfL, mTo, mIsI, mIsI2, mNot, mAnd, mOr, mIf, mIfx, mIfj, mRet, mRetL, mDo, mUnp, mSl, mSlL, mEnd, mApp, mExt, mRem, mStore, mRaise1, mPar, mParLL, mRng1, mRng2, mTRng, mLRng, mIxT, mStoreT, mDict1, mApp2, mPut2, mAppPop, M.bind_assoc, M.pure_bind, M.opt_some, M.raise_bind, callP_bind, callL_bind, callS_bind, callSL_bind, mForB_bind, mCompB_bind, mCompBL_bind, callP_0, callP_1, callP_2, callP_3, callP_4, callP_5, callP_6, callL_0, callL_1, callL_2, callL_3, callL_4, callL_5, callL_6, callS_0, callS_1, callS_2, callS_3, callS_4, callS_5, callS_6, callSL_0, callSL_1, callSL_2, callSL_3, callSL_4, M.pur_pure, M.pur_raise, M.nox_pure, retD_bind, retD_ret, retD_nx, retD_raise, retLst_bind, retLst_retL, retLst_raise, exits_bind, exits_ret, exits_retL, exits_brk, exits_cnt, exits_raise, andThen_bind, andThen_nx, andThen_ret, andThen_retL, andThen_brk, andThen_cnt, andThen_raise, bnd2, bnd3, bnd4, bndL2, if_true, if_false, Bool.false_eq_true, Bool.not_true, Bool.not_false, reduceIte, dAdd_int, dSub_int, dCmp_int, dEq_int, dNe_int, dLen_list, dLen_tup, dInt_int, dItems_list, dItems_tup, dListOf_list, dListOf_tup, dTuple_list, dTuple_tup, dLst_0, dTup_0, dLst_1, dTup_1, dLst_2, dTup_2, dLst_3, dTup_3, dLst_4, dTup_4, dLst_5, dTup_5, dLst_6, dTup_6, dLst_7, dTup_7, dLst_8, dTup_8, dLst_9, dTup_9, dLst_10, dTup_10, dLst_11, dTup_11, dLst_12, dTup_12, dIsN, dNeg_int, isI, dInt1, check_players_ok hh hp, e1, e2, told_spread])
  exact M.bind_pure _
theorem told_unknown (hh : HallT h) (hp : PlayT h.length ps) (hl : rows.length ≤ 900000) (hd : ∀ d ∈ rows, Sm d) (hf : fb ps h rows = none) (hk : riseB h.length kn = false) (hks : Sm kn) :
    M_told [encH h, encB ps, .list rows, kn] = M.raise ⟨"BadKnowing", []⟩ := by
  show retD (B_told (encH h) (encB ps) (.list rows) kn) = _
  unfold B_told
  have e1 := m_halls_of (ps := ps) hl hd hh.sb
  rw [hf] at e1
  obtain ⟨l, e1⟩ := e1
  have e2 : M_check_knowing [encH h, kn] = M.raise ⟨"BadKnowing", []⟩ := by
    rw [m_check_knowing _ _ (hallB_iff.mpr ⟨h, rfl, hh⟩) hks, lenD_encH, hk]
    rfl
  (try simp only [mCons, mB, mBB, mBL, mSeq, mBin, mBinL, mCmp, mChain, mOfB, mOfL, mTo, mIsI, mIsI2, mNot, mAnd, mOr, mIf, mIfx, mIfj, mRet, mRetL, mDo, mUnp, mSl, mSlL, mEnd, mApp, mExt, mRem, mStore, mRaise1, mPar, mParLL, mRng1, mRng2, mTRng, mLRng, mIxT, mStoreT, mDict1, mApp2, mPut2, mAppPop, M.bind_assoc, M.pure_bind, M.opt_some, M.raise_bind, callP_bind, callL_bind, callS_bind, callSL_bind, mForB_bind, mCompB_bind, mCompBL_bind, callP_0, callP_1, callP_2, callP_3, callP_4, callP_5, callP_6, callL_0, callL_1, callL_2, callL_3, callL_4, callL_5, callL_6, callS_0, callS_1, callS_2, callS_3, callS_4, callS_5, callS_6, callSL_0, callSL_1, callSL_2, callSL_3, callSL_4, M.pur_pure, M.pur_raise, M.nox_pure, retD_bind, retD_ret, retD_nx, retD_raise, retLst_bind, retLst_retL, retLst_raise, exits_bind, exits_ret, exits_retL, exits_brk, exits_cnt, exits_raise, andThen_bind, andThen_nx, andThen_ret, andThen_retL, andThen_brk, andThen_cnt, andThen_raise, bnd2, bnd3, bnd4, bndL2, if_true, if_false, Bool.false_eq_true, Bool.not_true, Bool.not_false, reduceIte, dAdd_int, dSub_int, dCmp_int, dEq_int, dNe_int, dLen_list, dLen_tup, dInt_int, dItems_list, dItems_tup, dListOf_list, dListOf_tup, dTuple_list, dTuple_tup, dLst_0, dTup_0, dLst_1, dTup_1, dLst_2, dTup_2, dLst_3, dTup_3, dLst_4, dTup_4, dLst_5, dTup_5, dLst_6, dTup_6, dLst_7, dTup_7, dLst_8, dTup_8, dLst_9, dTup_9, dLst_10, dTup_10, dLst_11, dTup_11, dLst_12, dTup_12, dIsN, dNeg_int, isI, dInt1, check_players_ok hh hp, e1, e2])
theorem told_bad {i : Nat} (hh : HallT h) (hp : PlayT h.length ps) (hl : rows.length ≤ 900000) (hd : ∀ d ∈ rows, Sm d) (hf : fb ps h rows = some i) :
    M_told [encH h, encB ps, .list rows, kn] = M.raise ⟨"BadRows", [("at", .int (i : Nat))]⟩ := by
  show retD (B_told (encH h) (encB ps) (.list rows) kn) = _
  unfold B_told
  have e1 := m_halls_of (ps := ps) hl hd hh.sb
  rw [hf] at e1
  (try simp only [mCons, mB, mBB, mBL, mSeq, mBin, mBinL, mCmp, mChain, mOfB, mOfL, mTo, mIsI, mIsI2, mNot, mAnd, mOr, mIf, mIfx, mIfj, mRet, mRetL, mDo, mUnp, mSl, mSlL, mEnd, mApp, mExt, mRem, mStore, mRaise1, mPar, mParLL, mRng1, mRng2, mTRng, mLRng, mIxT, mStoreT, mDict1, mApp2, mPut2, mAppPop, M.bind_assoc, M.pure_bind, M.opt_some, M.raise_bind, callP_bind, callL_bind, callS_bind, callSL_bind, mForB_bind, mCompB_bind, mCompBL_bind, callP_0, callP_1, callP_2, callP_3, callP_4, callP_5, callP_6, callL_0, callL_1, callL_2, callL_3, callL_4, callL_5, callL_6, callS_0, callS_1, callS_2, callS_3, callS_4, callS_5, callS_6, callSL_0, callSL_1, callSL_2, callSL_3, callSL_4, M.pur_pure, M.pur_raise, M.nox_pure, retD_bind, retD_ret, retD_nx, retD_raise, retLst_bind, retLst_retL, retLst_raise, exits_bind, exits_ret, exits_retL, exits_brk, exits_cnt, exits_raise, andThen_bind, andThen_nx, andThen_ret, andThen_retL, andThen_brk, andThen_cnt, andThen_raise, bnd2, bnd3, bnd4, bndL2, if_true, if_false, Bool.false_eq_true, Bool.not_true, Bool.not_false, reduceIte, dAdd_int, dSub_int, dCmp_int, dEq_int, dNe_int, dLen_list, dLen_tup, dInt_int, dItems_list, dItems_tup, dListOf_list, dListOf_tup, dTuple_list, dTuple_tup, dLst_0, dTup_0, dLst_1, dTup_1, dLst_2, dTup_2, dLst_3, dTup_3, dLst_4, dTup_4, dLst_5, dTup_5, dLst_6, dTup_6, dLst_7, dTup_7, dLst_8, dTup_8, dLst_9, dTup_9, dLst_10, dTup_10, dLst_11, dTup_11, dLst_12, dTup_12, dIsN, dNeg_int, isI, dInt1, check_players_ok hh hp, e1])
theorem told_no {r : D} (hh : HallT h) (hp : PlayT h.length ps) (hr : ∀ l, r ≠ .list l) :
    M_told [encH h, encB ps, r, kn] = M.raise ⟨"BadRows", [("at", .int (-1))]⟩ := by
  show retD (B_told (encH h) (encB ps) r kn) = _
  unfold B_told
  (try simp only [mCons, mB, mBB, mBL, mSeq, mBin, mBinL, mCmp, mChain, mOfB, mOfL, mTo, mIsI, mIsI2, mNot, mAnd, mOr, mIf, mIfx, mIfj, mRet, mRetL, mDo, mUnp, mSl, mSlL, mEnd, mApp, mExt, mRem, mStore, mRaise1, mPar, mParLL, mRng1, mRng2, mTRng, mLRng, mIxT, mStoreT, mDict1, mApp2, mPut2, mAppPop, M.bind_assoc, M.pure_bind, M.opt_some, M.raise_bind, callP_bind, callL_bind, callS_bind, callSL_bind, mForB_bind, mCompB_bind, mCompBL_bind, callP_0, callP_1, callP_2, callP_3, callP_4, callP_5, callP_6, callL_0, callL_1, callL_2, callL_3, callL_4, callL_5, callL_6, callS_0, callS_1, callS_2, callS_3, callS_4, callS_5, callS_6, callSL_0, callSL_1, callSL_2, callSL_3, callSL_4, M.pur_pure, M.pur_raise, M.nox_pure, retD_bind, retD_ret, retD_nx, retD_raise, retLst_bind, retLst_retL, retLst_raise, exits_bind, exits_ret, exits_retL, exits_brk, exits_cnt, exits_raise, andThen_bind, andThen_nx, andThen_ret, andThen_retL, andThen_brk, andThen_cnt, andThen_raise, bnd2, bnd3, bnd4, bndL2, if_true, if_false, Bool.false_eq_true, Bool.not_true, Bool.not_false, reduceIte, dAdd_int, dSub_int, dCmp_int, dEq_int, dNe_int, dLen_list, dLen_tup, dInt_int, dItems_list, dItems_tup, dListOf_list, dListOf_tup, dTuple_list, dTuple_tup, dLst_0, dTup_0, dLst_1, dTup_1, dLst_2, dTup_2, dLst_3, dTup_3, dLst_4, dTup_4, dLst_5, dTup_5, dLst_6, dTup_6, dLst_7, dTup_7, dLst_8, dTup_8, dLst_9, dTup_9, dLst_10, dTup_10, dLst_11, dTup_11, dLst_12, dTup_12, dIsN, dNeg_int, isI, dInt1, check_players_ok hh hp, m_halls_of_no hr])
theorem told_players {r p : D} (hh : HallT h) (hp : riseB h.length p = false) (hps : Sm p) :
    M_told [encH h, p, r, kn] = M.raise ⟨"BadPlayers", []⟩ := by
  show retD (B_told (encH h) p r kn) = _
  unfold B_told
  have e : M_check_players [encH h, p] = M.raise ⟨"BadPlayers", []⟩ := by
    rw [m_check_players _ _ (sm2_encH hh) hps, hallB_iff.mpr ⟨h, rfl, hh⟩, lenD_encH, hp]
    rfl
  (try simp only [mCons, mB, mBB, mBL, mSeq, mBin, mBinL, mCmp, mChain, mOfB, mOfL, mTo, mIsI, mIsI2, mNot, mAnd, mOr, mIf, mIfx, mIfj, mRet, mRetL, mDo, mUnp, mSl, mSlL, mEnd, mApp, mExt, mRem, mStore, mRaise1, mPar, mParLL, mRng1, mRng2, mTRng, mLRng, mIxT, mStoreT, mDict1, mApp2, mPut2, mAppPop, M.bind_assoc, M.pure_bind, M.opt_some, M.raise_bind, callP_bind, callL_bind, callS_bind, callSL_bind, mForB_bind, mCompB_bind, mCompBL_bind, callP_0, callP_1, callP_2, callP_3, callP_4, callP_5, callP_6, callL_0, callL_1, callL_2, callL_3, callL_4, callL_5, callL_6, callS_0, callS_1, callS_2, callS_3, callS_4, callS_5, callS_6, callSL_0, callSL_1, callSL_2, callSL_3, callSL_4, M.pur_pure, M.pur_raise, M.nox_pure, retD_bind, retD_ret, retD_nx, retD_raise, retLst_bind, retLst_retL, retLst_raise, exits_bind, exits_ret, exits_retL, exits_brk, exits_cnt, exits_raise, andThen_bind, andThen_nx, andThen_ret, andThen_retL, andThen_brk, andThen_cnt, andThen_raise, bnd2, bnd3, bnd4, bndL2, if_true, if_false, Bool.false_eq_true, Bool.not_true, Bool.not_false, reduceIte, dAdd_int, dSub_int, dCmp_int, dEq_int, dNe_int, dLen_list, dLen_tup, dInt_int, dItems_list, dItems_tup, dListOf_list, dListOf_tup, dTuple_list, dTuple_tup, dLst_0, dTup_0, dLst_1, dTup_1, dLst_2, dTup_2, dLst_3, dTup_3, dLst_4, dTup_4, dLst_5, dTup_5, dLst_6, dTup_6, dLst_7, dTup_7, dLst_8, dTup_8, dLst_9, dTup_9, dLst_10, dTup_10, dLst_11, dTup_11, dLst_12, dTup_12, dIsN, dNeg_int, isI, dInt1, e])
theorem told_hall {r p d : D} (hd : hallB d = false) (hs : Sm2 d) (hps : Sm p) :
    M_told [d, p, r, kn] = M.raise ⟨"BadHall", []⟩ := by
  show retD (B_told d p r kn) = _
  unfold B_told
  have e : M_check_players [d, p] = M.raise ⟨"BadHall", []⟩ := by
    rw [m_check_players _ _ hs hps, hd]
    rfl
  (try simp only [mCons, mB, mBB, mBL, mSeq, mBin, mBinL, mCmp, mChain, mOfB, mOfL, mTo, mIsI, mIsI2, mNot, mAnd, mOr, mIf, mIfx, mIfj, mRet, mRetL, mDo, mUnp, mSl, mSlL, mEnd, mApp, mExt, mRem, mStore, mRaise1, mPar, mParLL, mRng1, mRng2, mTRng, mLRng, mIxT, mStoreT, mDict1, mApp2, mPut2, mAppPop, M.bind_assoc, M.pure_bind, M.opt_some, M.raise_bind, callP_bind, callL_bind, callS_bind, callSL_bind, mForB_bind, mCompB_bind, mCompBL_bind, callP_0, callP_1, callP_2, callP_3, callP_4, callP_5, callP_6, callL_0, callL_1, callL_2, callL_3, callL_4, callL_5, callL_6, callS_0, callS_1, callS_2, callS_3, callS_4, callS_5, callS_6, callSL_0, callSL_1, callSL_2, callSL_3, callSL_4, M.pur_pure, M.pur_raise, M.nox_pure, retD_bind, retD_ret, retD_nx, retD_raise, retLst_bind, retLst_retL, retLst_raise, exits_bind, exits_ret, exits_retL, exits_brk, exits_cnt, exits_raise, andThen_bind, andThen_nx, andThen_ret, andThen_retL, andThen_brk, andThen_cnt, andThen_raise, bnd2, bnd3, bnd4, bndL2, if_true, if_false, Bool.false_eq_true, Bool.not_true, Bool.not_false, reduceIte, dAdd_int, dSub_int, dCmp_int, dEq_int, dNe_int, dLen_list, dLen_tup, dInt_int, dItems_list, dItems_tup, dListOf_list, dListOf_tup, dTuple_list, dTuple_tup, dLst_0, dTup_0, dLst_1, dTup_1, dLst_2, dTup_2, dLst_3, dTup_3, dLst_4, dTup_4, dLst_5, dTup_5, dLst_6, dTup_6, dLst_7, dTup_7, dLst_8, dTup_8, dLst_9, dTup_9, dLst_10, dTup_10, dLst_11, dTup_11, dLst_12, dTup_12, dIsN, dNeg_int, isI, dInt1, e])
end
end Law
end
section
set_option Elab.async false
set_option linter.all false
set_option maxRecDepth 100000
set_option maxHeartbeats 400000
namespace Law
open PySem PySem.Spec PyProof.Rows L2 Sim
theorem mSaid_raise {γ α : Type} {word : Str} {known : Exn → Bool} {ms : Exn → M (Out γ α)} {x : Exn} {d : D} (hk : known x = true) (h : retD (ms x) = M.pure d) : mSaid word known ms (M.raise x) = M.pure d := by
  funext s
  show (if known x = true then M.nox (retD (ms x)) s else .stuck) = _
  rw [if_pos hk, h]
  rfl
theorem said_hall : mSaid "told" known_ S__law_said (M.raise ⟨"BadHall", []⟩) = M.pure (.tuple [.str "refused", .str "hall"]) := mSaid_raise (by decide +kernel) rfl
theorem said_players : mSaid "told" known_ S__law_said (M.raise ⟨"BadPlayers", []⟩) = M.pure (.tuple [.str "refused", .str "players"]) := mSaid_raise (by decide +kernel) rfl
theorem said_knowing : mSaid "told" known_ S__law_said (M.raise ⟨"BadKnowing", []⟩) = M.pure (.tuple [.str "refused", .str "knowing"]) := mSaid_raise (by decide +kernel) rfl
theorem known_rows0 : known_ ⟨"BadRows", []⟩ = true := by decide +kernel
theorem known_rows {as : List (Str × D)} : known_ ⟨"BadRows", as⟩ = true := known_rows0
theorem said_rows (i : Int) : mSaid "told" known_ S__law_said (M.raise ⟨"BadRows", [("at", .int i)]⟩) = M.pure (.tuple [.str "refused", .str "rows", .int i]) := mSaid_raise known_rows rfl
/-! ### things of another kind -/
def BentOk (d : D) : Prop := ∀ l, d = .list l → l.length ≤ 900000 ∧ ∀ x ∈ l, Sm x
def PD (d : D) : Prop := Sm d ∧ BentOk d
theorem pd_none : PD .none := ⟨fun _ e => (by cases e), fun _ e => (by cases e)⟩
theorem pd_bool (b : Bool) : PD (.bool b) := ⟨fun _ e => (by cases e), fun _ e => (by cases e)⟩
theorem pd_int (b : Int) : PD (.int b) := ⟨fun _ e => (by cases e), fun _ e => (by cases e)⟩
theorem pd_str (b : Str) : PD (.str b) := ⟨fun _ e => (by cases e), fun _ e => (by cases e)⟩
theorem pd_dict (b : List (D × D)) : PD (.dict b) := ⟨fun _ e => (by cases e), fun _ e => (by cases e)⟩
theorem pd_tup {l : List D} (h : l.length ≤ 1000000) : PD (.tuple l) := ⟨fun _ e => (by cases e; exact h), fun _ e => (by cases e)⟩
theorem pd_list {l : List D} (h : l.length ≤ 900000) (k : ∀ x ∈ l, Sm x) : PD (.list l) := ⟨fun _ e => (by cases e), fun _ e => (by cases e; exact ⟨h, k⟩)⟩
theorem pow_10_11 : dPow (.int 10) (.int 11) = some (.int 100000000000) := rfl
theorem t_odd : Tri (M__law_odd []) PD := by
  show Tri (retD B__law_odd) _
  refine .retD ?_
  unfold B__law_odd
  (try simp only [mCons, mB, mBB, mBL, mSeq, mBin, mBinL, mCmp, mChain, mOfB, mOfL, mTo, mIsI, mIsI2, mNot, mAnd, mOr, mIf, mIfx, mIfj, mRet, mRetL, mDo, mUnp, mSl, mSlL, mEnd, mApp, mExt, mRem, mStore, mRaise1, mPar, mParLL, mRng1, mRng2, mTRng, mLRng, mIxT, mStoreT, mDict1, mApp2, mPut2, mAppPop, M.bind_assoc, M.pure_bind, M.opt_some, M.raise_bind, callP_bind, callL_bind, callS_bind, callSL_bind, mForB_bind, mCompB_bind, mCompBL_bind, callP_0, callP_1, callP_2, callP_3, callP_4, callP_5, callP_6, callL_0, callL_1, callL_2, callL_3, callL_4, callL_5, callL_6, callS_0, callS_1, callS_2, callS_3, callS_4, callS_5, callS_6, callSL_0, callSL_1, callSL_2, callSL_3, callSL_4, M.pur_pure, M.pur_raise, M.nox_pure, retD_bind, retD_ret, retD_nx, retD_raise, retLst_bind, retLst_retL, retLst_raise, exits_bind, exits_ret, exits_retL, exits_brk, exits_cnt, exits_raise, andThen_bind, andThen_nx, andThen_ret, andThen_retL, andThen_brk, andThen_cnt, andThen_raise, bnd2, bnd3, bnd4, bndL2, if_true, if_false, Bool.false_eq_true, Bool.not_true, Bool.not_false, reduceIte, dAdd_int, dSub_int, dCmp_int, dEq_int, dNe_int, dLen_list, dLen_tup, dInt_int, dItems_list, dItems_tup, dListOf_list, dListOf_tup, dTuple_list, dTuple_tup, dLst_0, dTup_0, dLst_1, dTup_1, dLst_2, dTup_2, dLst_3, dTup_3, dLst_4, dTup_4, dLst_5, dTup_5, dLst_6, dTup_6, dLst_7, dTup_7, dLst_8, dTup_8, dLst_9, dTup_9, dLst_10, dTup_10, dLst_11, dTup_11, dLst_12, dTup_12, dIsN, dNeg_int, isI, dInt1])
  refine (t_draw (many := 30) (by omega) (by omega)).noxB fun d ⟨k, e, k0, k1⟩ => ?_
  subst e
  (try simp only [mCons, mB, mBB, mBL, mSeq, mBin, mBinL, mCmp, mChain, mOfB, mOfL, mTo, mIsI, mIsI2, mNot, mAnd, mOr, mIf, mIfx, mIfj, mRet, mRetL, mDo, mUnp, mSl, mSlL, mEnd, mApp, mExt, mRem, mStore, mRaise1, mPar, mParLL, mRng1, mRng2, mTRng, mLRng, mIxT, mStoreT, mDict1, mApp2, mPut2, mAppPop, M.bind_assoc, M.pure_bind, M.opt_some, M.raise_bind, callP_bind, callL_bind, callS_bind, callSL_bind, mForB_bind, mCompB_bind, mCompBL_bind, callP_0, callP_1, callP_2, callP_3, callP_4, callP_5, callP_6, callL_0, callL_1, callL_2, callL_3, callL_4, callL_5, callL_6, callS_0, callS_1, callS_2, callS_3, callS_4, callS_5, callS_6, callSL_0, callSL_1, callSL_2, callSL_3, callSL_4, M.pur_pure, M.pur_raise, M.nox_pure, retD_bind, retD_ret, retD_nx, retD_raise, retLst_bind, retLst_retL, retLst_raise, exits_bind, exits_ret, exits_retL, exits_brk, exits_cnt, exits_raise, andThen_bind, andThen_nx, andThen_ret, andThen_retL, andThen_brk, andThen_cnt, andThen_raise, bnd2, bnd3, bnd4, bndL2, if_true, if_false, Bool.false_eq_true, Bool.not_true, Bool.not_false, reduceIte, dAdd_int, dSub_int, dCmp_int, dEq_int, dNe_int, dLen_list, dLen_tup, dInt_int, dItems_list, dItems_tup, dListOf_list, dListOf_tup, dTuple_list, dTuple_tup, dLst_0, dTup_0, dLst_1, dTup_1, dLst_2, dTup_2, dLst_3, dTup_3, dLst_4, dTup_4, dLst_5, dTup_5, dLst_6, dTup_6, dLst_7, dTup_7, dLst_8, dTup_8, dLst_9, dTup_9, dLst_10, dTup_10, dLst_11, dTup_11, dLst_12, dTup_12, dIsN, dNeg_int, isI, dInt1, rng1_ok (n := 1 + k) (by omega)])
  refine Tri.forB' PD pd_none (fun d _ a ha => ⟨d, rfl, ?_⟩) fun a ha => ?_
  · refine (t_draw (many := 3) (by omega) (by omega)).noxB fun d ⟨j, e, j0, j1⟩ => ?_
    subst e
    obtain ⟨y, e1, m1⟩ := item_list (l := [.tuple [a], .list [a], .dict [(.int 0, a)]]) (i := j) j0 (by simpa using j1)
    (try simp only [mCons, mB, mBB, mBL, mSeq, mBin, mBinL, mCmp, mChain, mOfB, mOfL, mTo, mIsI, mIsI2, mNot, mAnd, mOr, mIf, mIfx, mIfj, mRet, mRetL, mDo, mUnp, mSl, mSlL, mEnd, mApp, mExt, mRem, mStore, mRaise1, mPar, mParLL, mRng1, mRng2, mTRng, mLRng, mIxT, mStoreT, mDict1, mApp2, mPut2, mAppPop, M.bind_assoc, M.pure_bind, M.opt_some, M.raise_bind, callP_bind, callL_bind, callS_bind, callSL_bind, mForB_bind, mCompB_bind, mCompBL_bind, callP_0, callP_1, callP_2, callP_3, callP_4, callP_5, callP_6, callL_0, callL_1, callL_2, callL_3, callL_4, callL_5, callL_6, callS_0, callS_1, callS_2, callS_3, callS_4, callS_5, callS_6, callSL_0, callSL_1, callSL_2, callSL_3, callSL_4, M.pur_pure, M.pur_raise, M.nox_pure, retD_bind, retD_ret, retD_nx, retD_raise, retLst_bind, retLst_retL, retLst_raise, exits_bind, exits_ret, exits_retL, exits_brk, exits_cnt, exits_raise, andThen_bind, andThen_nx, andThen_ret, andThen_retL, andThen_brk, andThen_cnt, andThen_raise, bnd2, bnd3, bnd4, bndL2, if_true, if_false, Bool.false_eq_true, Bool.not_true, Bool.not_false, reduceIte, dAdd_int, dSub_int, dCmp_int, dEq_int, dNe_int, dLen_list, dLen_tup, dInt_int, dItems_list, dItems_tup, dListOf_list, dListOf_tup, dTuple_list, dTuple_tup, dLst_0, dTup_0, dLst_1, dTup_1, dLst_2, dTup_2, dLst_3, dTup_3, dLst_4, dTup_4, dLst_5, dTup_5, dLst_6, dTup_6, dLst_7, dTup_7, dLst_8, dTup_8, dLst_9, dTup_9, dLst_10, dTup_10, dLst_11, dTup_11, dLst_12, dTup_12, dIsN, dNeg_int, isI, dInt1, e1])
    refine .pure ⟨y, .inl rfl, ?_⟩
    simp only [List.mem_cons, List.not_mem_nil, or_false] at m1
    rcases m1 with rfl | rfl | rfl
    · exact pd_tup (by simp)
    · exact pd_list (by simp) (by simpa using ha.1)
    · exact pd_dict _
  · (try simp only [mCons, mB, mBB, mBL, mSeq, mBin, mBinL, mCmp, mChain, mOfB, mOfL, mTo, mIsI, mIsI2, mNot, mAnd, mOr, mIf, mIfx, mIfj, mRet, mRetL, mDo, mUnp, mSl, mSlL, mEnd, mApp, mExt, mRem, mStore, mRaise1, mPar, mParLL, mRng1, mRng2, mTRng, mLRng, mIxT, mStoreT, mDict1, mApp2, mPut2, mAppPop, M.bind_assoc, M.pure_bind, M.opt_some, M.raise_bind, callP_bind, callL_bind, callS_bind, callSL_bind, mForB_bind, mCompB_bind, mCompBL_bind, callP_0, callP_1, callP_2, callP_3, callP_4, callP_5, callP_6, callL_0, callL_1, callL_2, callL_3, callL_4, callL_5, callL_6, callS_0, callS_1, callS_2, callS_3, callS_4, callS_5, callS_6, callSL_0, callSL_1, callSL_2, callSL_3, callSL_4, M.pur_pure, M.pur_raise, M.nox_pure, retD_bind, retD_ret, retD_nx, retD_raise, retLst_bind, retLst_retL, retLst_raise, exits_bind, exits_ret, exits_retL, exits_brk, exits_cnt, exits_raise, andThen_bind, andThen_nx, andThen_ret, andThen_retL, andThen_brk, andThen_cnt, andThen_raise, bnd2, bnd3, bnd4, bndL2, if_true, if_false, Bool.false_eq_true, Bool.not_true, Bool.not_false, reduceIte, dAdd_int, dSub_int, dCmp_int, dEq_int, dNe_int, dLen_list, dLen_tup, dInt_int, dItems_list, dItems_tup, dListOf_list, dListOf_tup, dTuple_list, dTuple_tup, dLst_0, dTup_0, dLst_1, dTup_1, dLst_2, dTup_2, dLst_3, dTup_3, dLst_4, dTup_4, dLst_5, dTup_5, dLst_6, dTup_6, dLst_7, dTup_7, dLst_8, dTup_8, dLst_9, dTup_9, dLst_10, dTup_10, dLst_11, dTup_11, dLst_12, dTup_12, dIsN, dNeg_int, isI, dInt1, pow_10_11])
    refine (t_any (Q := PD) (by simp) (by simp) fun x hx => ?_).noxB fun d hd => .pure ⟨d, rfl, hd⟩
    simp only [List.mem_cons, List.not_mem_nil, or_false] at hx
    rcases hx with rfl | rfl | rfl | rfl | rfl | rfl | rfl | rfl | rfl | rfl | rfl | rfl
    · exact pd_none
    · exact pd_int _
    · exact pd_bool _
    · exact pd_str _
    · exact pd_str _
    · exact pd_dict _
    · exact pd_tup (by simp)
    · exact pd_tup (by simp)
    · exact pd_tup (by simp)
    · exact pd_str _
    · exact pd_int _
    · exact ha
theorem cutL_mem {l : List D} {lo hi : Option Int} {x : D} (h : x ∈ cutL l lo hi) : x ∈ l := List.mem_of_mem_drop (List.mem_of_mem_take h)
theorem dSliceL_list (l : List D) (lo hi : Option Int) : dSliceL (.list l) lo hi = some (cutL l lo hi) := rfl
theorem dSlice_tup (l : List D) (lo hi : Option Int) : dSlice (.tuple l) lo hi = some (.tuple (cutL l lo hi)) := rfl
theorem dAddL_ok {a b : List D} (h : a.length + b.length ≤ 1000000) : dAddL (.list a) (.list b) = some (a ++ b) := if_pos h
theorem dAdd_tup {a b : List D} (h : a.length + b.length ≤ 1000000) : dAdd (.tuple a) (.tuple b) = some (.tuple (a ++ b)) := if_pos h
theorem t_bent {rows : List D} {n : Nat} (hr : ∀ x ∈ rows, Sm x) (hl : rows.length ≤ 1000) (h0 : 0 < n) (h1 : n ≤ 1000) : Tri (M__law_bent_rows [.list rows, .int (n : Nat)]) PD := by
  show Tri (retD (B__law_bent_rows (.list rows) (.int (n : Nat)))) _
  refine .retD ?_
  unfold B__law_bent_rows
  (try simp only [mCons, mB, mBB, mBL, mSeq, mBin, mBinL, mCmp, mChain, mOfB, mOfL, mTo, mIsI, mIsI2, mNot, mAnd, mOr, mIf, mIfx, mIfj, mRet, mRetL, mDo, mUnp, mSl, mSlL, mEnd, mApp, mExt, mRem, mStore, mRaise1, mPar, mParLL, mRng1, mRng2, mTRng, mLRng, mIxT, mStoreT, mDict1, mApp2, mPut2, mAppPop, M.bind_assoc, M.pure_bind, M.opt_some, M.raise_bind, callP_bind, callL_bind, callS_bind, callSL_bind, mForB_bind, mCompB_bind, mCompBL_bind, callP_0, callP_1, callP_2, callP_3, callP_4, callP_5, callP_6, callL_0, callL_1, callL_2, callL_3, callL_4, callL_5, callL_6, callS_0, callS_1, callS_2, callS_3, callS_4, callS_5, callS_6, callSL_0, callSL_1, callSL_2, callSL_3, callSL_4, M.pur_pure, M.pur_raise, M.nox_pure, retD_bind, retD_ret, retD_nx, retD_raise, retLst_bind, retLst_retL, retLst_raise, exits_bind, exits_ret, exits_retL, exits_brk, exits_cnt, exits_raise, andThen_bind, andThen_nx, andThen_ret, andThen_retL, andThen_brk, andThen_cnt, andThen_raise, bnd2, bnd3, bnd4, bndL2, if_true, if_false, Bool.false_eq_true, Bool.not_true, Bool.not_false, reduceIte, dAdd_int, dSub_int, dCmp_int, dEq_int, dNe_int, dLen_list, dLen_tup, dInt_int, dItems_list, dItems_tup, dListOf_list, dListOf_tup, dTuple_list, dTuple_tup, dLst_0, dTup_0, dLst_1, dTup_1, dLst_2, dTup_2, dLst_3, dTup_3, dLst_4, dTup_4, dLst_5, dTup_5, dLst_6, dTup_6, dLst_7, dTup_7, dLst_8, dTup_8, dLst_9, dTup_9, dLst_10, dTup_10, dLst_11, dTup_11, dLst_12, dTup_12, dIsN, dNeg_int, isI, dInt1])
  refine (t_draw (many := (rows.length : Nat) + 1) (by omega) (by omega)).noxB fun d ⟨k, e, k0, k1⟩ => ?_
  subst e
  (try simp only [mCons, mB, mBB, mBL, mSeq, mBin, mBinL, mCmp, mChain, mOfB, mOfL, mTo, mIsI, mIsI2, mNot, mAnd, mOr, mIf, mIfx, mIfj, mRet, mRetL, mDo, mUnp, mSl, mSlL, mEnd, mApp, mExt, mRem, mStore, mRaise1, mPar, mParLL, mRng1, mRng2, mTRng, mLRng, mIxT, mStoreT, mDict1, mApp2, mPut2, mAppPop, M.bind_assoc, M.pure_bind, M.opt_some, M.raise_bind, callP_bind, callL_bind, callS_bind, callSL_bind, mForB_bind, mCompB_bind, mCompBL_bind, callP_0, callP_1, callP_2, callP_3, callP_4, callP_5, callP_6, callL_0, callL_1, callL_2, callL_3, callL_4, callL_5, callL_6, callS_0, callS_1, callS_2, callS_3, callS_4, callS_5, callS_6, callSL_0, callSL_1, callSL_2, callSL_3, callSL_4, M.pur_pure, M.pur_raise, M.nox_pure, retD_bind, retD_ret, retD_nx, retD_raise, retLst_bind, retLst_retL, retLst_raise, exits_bind, exits_ret, exits_retL, exits_brk, exits_cnt, exits_raise, andThen_bind, andThen_nx, andThen_ret, andThen_retL, andThen_brk, andThen_cnt, andThen_raise, bnd2, bnd3, bnd4, bndL2, if_true, if_false, Bool.false_eq_true, Bool.not_true, Bool.not_false, reduceIte, dAdd_int, dSub_int, dCmp_int, dEq_int, dNe_int, dLen_list, dLen_tup, dInt_int, dItems_list, dItems_tup, dListOf_list, dListOf_tup, dTuple_list, dTuple_tup, dLst_0, dTup_0, dLst_1, dTup_1, dLst_2, dTup_2, dLst_3, dTup_3, dLst_4, dTup_4, dLst_5, dTup_5, dLst_6, dTup_6, dLst_7, dTup_7, dLst_8, dTup_8, dLst_9, dTup_9, dLst_10, dTup_10, dLst_11, dTup_11, dLst_12, dTup_12, dIsN, dNeg_int, isI, dInt1, rng1_ok (n := 3) (by omega)])
  refine (Tri.compB (R := Sm) (by simp [rngD_len]) fun d _ => ⟨d, rfl, .pure trivial, (t_draw (many := (n : Int)) (by omega) (by omega)).nox.mono fun x ⟨i, e, _⟩ => by subst e; exact (pd_int i).1⟩).bind fun one ⟨hone, ho⟩ => ?_
  have ho' : one.length ≤ 3 := by simpa [rngD_len] using ho
  have c1 : ∀ lo hi, (cutL rows lo hi).length ≤ rows.length := fun lo hi => cutL_length _ _ _
  have c2 : ∀ lo hi, (cutL one lo hi).length ≤ one.length := fun lo hi => cutL_length _ _ _
  (try simp only [mCons, mB, mBB, mBL, mSeq, mBin, mBinL, mCmp, mChain, mOfB, mOfL, mTo, mIsI, mIsI2, mNot, mAnd, mOr, mIf, mIfx, mIfj, mRet, mRetL, mDo, mUnp, mSl, mSlL, mEnd, mApp, mExt, mRem, mStore, mRaise1, mPar, mParLL, mRng1, mRng2, mTRng, mLRng, mIxT, mStoreT, mDict1, mApp2, mPut2, mAppPop, M.bind_assoc, M.pure_bind, M.opt_some, M.raise_bind, callP_bind, callL_bind, callS_bind, callSL_bind, mForB_bind, mCompB_bind, mCompBL_bind, callP_0, callP_1, callP_2, callP_3, callP_4, callP_5, callP_6, callL_0, callL_1, callL_2, callL_3, callL_4, callL_5, callL_6, callS_0, callS_1, callS_2, callS_3, callS_4, callS_5, callS_6, callSL_0, callSL_1, callSL_2, callSL_3, callSL_4, M.pur_pure, M.pur_raise, M.nox_pure, retD_bind, retD_ret, retD_nx, retD_raise, retLst_bind, retLst_retL, retLst_raise, exits_bind, exits_ret, exits_retL, exits_brk, exits_cnt, exits_raise, andThen_bind, andThen_nx, andThen_ret, andThen_retL, andThen_brk, andThen_cnt, andThen_raise, bnd2, bnd3, bnd4, bndL2, if_true, if_false, Bool.false_eq_true, Bool.not_true, Bool.not_false, reduceIte, dAdd_int, dSub_int, dCmp_int, dEq_int, dNe_int, dLen_list, dLen_tup, dInt_int, dItems_list, dItems_tup, dListOf_list, dListOf_tup, dTuple_list, dTuple_tup, dLst_0, dTup_0, dLst_1, dTup_1, dLst_2, dTup_2, dLst_3, dTup_3, dLst_4, dTup_4, dLst_5, dTup_5, dLst_6, dTup_6, dLst_7, dTup_7, dLst_8, dTup_8, dLst_9, dTup_9, dLst_10, dTup_10, dLst_11, dTup_11, dLst_12, dTup_12, dIsN, dNeg_int, isI, dInt1, dSlice_tup, dAdd_tup (a := one) (b := [.int 0]) (by simp; omega)])
  refine (t_any (Q := PD) (by simp) (by simp) fun x hx => ?_).noxB fun odd hodd => ?_
  · simp only [List.mem_cons, List.not_mem_nil, or_false] at hx
    rcases hx with rfl | rfl | rfl | rfl | rfl | rfl | rfl | rfl | rfl | rfl
    · exact pd_none
    · exact pd_list (by omega) hone
    · exact pd_tup (by have := c2 none (some 2); omega)
    · exact pd_tup (by simp; omega)
    · exact pd_tup (by simp)
    · exact pd_tup (by simp)
    · exact pd_tup (by simp)
    all_goals exact pd_tup (by omega)
  · have k1 := c1 none (some k)
    have k2 := c1 (some k) none
    have k3 := c1 (some (k + 1)) none
    have k4 := c1 (some (-1)) none
    have c3 : ∀ lo hi, ∀ x ∈ cutL rows lo hi, Sm x := fun lo hi x hx => hr x (cutL_mem hx)
    have hodd' : ∀ x ∈ [odd], Sm x := by simpa using hodd.1
    have rev : mRevL (M.pure (.list rows)) = M.pure rows.reverse := rfl
    have app : ∀ {a b : List D}, (∀ x ∈ a, Sm x) → (∀ x ∈ b, Sm x) → ∀ x ∈ a ++ b, Sm x := fun ha hb x hx => (List.mem_append.mp hx).elim (ha x) (hb x)
    (try simp only [mCons, mB, mBB, mBL, mSeq, mBin, mBinL, mCmp, mChain, mOfB, mOfL, mTo, mIsI, mIsI2, mNot, mAnd, mOr, mIf, mIfx, mIfj, mRet, mRetL, mDo, mUnp, mSl, mSlL, mEnd, mApp, mExt, mRem, mStore, mRaise1, mPar, mParLL, mRng1, mRng2, mTRng, mLRng, mIxT, mStoreT, mDict1, mApp2, mPut2, mAppPop, M.bind_assoc, M.pure_bind, M.opt_some, M.raise_bind, callP_bind, callL_bind, callS_bind, callSL_bind, mForB_bind, mCompB_bind, mCompBL_bind, callP_0, callP_1, callP_2, callP_3, callP_4, callP_5, callP_6, callL_0, callL_1, callL_2, callL_3, callL_4, callL_5, callL_6, callS_0, callS_1, callS_2, callS_3, callS_4, callS_5, callS_6, callSL_0, callSL_1, callSL_2, callSL_3, callSL_4, M.pur_pure, M.pur_raise, M.nox_pure, retD_bind, retD_ret, retD_nx, retD_raise, retLst_bind, retLst_retL, retLst_raise, exits_bind, exits_ret, exits_retL, exits_brk, exits_cnt, exits_raise, andThen_bind, andThen_nx, andThen_ret, andThen_retL, andThen_brk, andThen_cnt, andThen_raise, bnd2, bnd3, bnd4, bndL2, if_true, if_false, Bool.false_eq_true, Bool.not_true, Bool.not_false, reduceIte, dAdd_int, dSub_int, dCmp_int, dEq_int, dNe_int, dLen_list, dLen_tup, dInt_int, dItems_list, dItems_tup, dListOf_list, dListOf_tup, dTuple_list, dTuple_tup, dLst_0, dTup_0, dLst_1, dTup_1, dLst_2, dTup_2, dLst_3, dTup_3, dLst_4, dTup_4, dLst_5, dTup_5, dLst_6, dTup_6, dLst_7, dTup_7, dLst_8, dTup_8, dLst_9, dTup_9, dLst_10, dTup_10, dLst_11, dTup_11, dLst_12, dTup_12, dIsN, dNeg_int, isI, dInt1, dSliceL_list, dAddL_ok (a := cutL rows none (some k)) (b := [odd]) (by simp; omega), dAddL_ok (a := cutL rows none (some k) ++ [odd]) (b := cutL rows (some k) none) (by simp; omega), dAddL_ok (a := cutL rows none (some k)) (b := cutL rows (some (k + 1)) none) (by omega), rev, dAddL_ok (a := rows) (b := cutL rows (some (-1)) none) (by omega)])
    refine t_odd.noxB fun deep hdeep => ?_
    rw [dAddL_ok (by simp)]
    (try simp only [mCons, mB, mBB, mBL, mSeq, mBin, mBinL, mCmp, mChain, mOfB, mOfL, mTo, mIsI, mIsI2, mNot, mAnd, mOr, mIf, mIfx, mIfj, mRet, mRetL, mDo, mUnp, mSl, mSlL, mEnd, mApp, mExt, mRem, mStore, mRaise1, mPar, mParLL, mRng1, mRng2, mTRng, mLRng, mIxT, mStoreT, mDict1, mApp2, mPut2, mAppPop, M.bind_assoc, M.pure_bind, M.opt_some, M.raise_bind, callP_bind, callL_bind, callS_bind, callSL_bind, mForB_bind, mCompB_bind, mCompBL_bind, callP_0, callP_1, callP_2, callP_3, callP_4, callP_5, callP_6, callL_0, callL_1, callL_2, callL_3, callL_4, callL_5, callL_6, callS_0, callS_1, callS_2, callS_3, callS_4, callS_5, callS_6, callSL_0, callSL_1, callSL_2, callSL_3, callSL_4, M.pur_pure, M.pur_raise, M.nox_pure, retD_bind, retD_ret, retD_nx, retD_raise, retLst_bind, retLst_retL, retLst_raise, exits_bind, exits_ret, exits_retL, exits_brk, exits_cnt, exits_raise, andThen_bind, andThen_nx, andThen_ret, andThen_retL, andThen_brk, andThen_cnt, andThen_raise, bnd2, bnd3, bnd4, bndL2, if_true, if_false, Bool.false_eq_true, Bool.not_true, Bool.not_false, reduceIte, dAdd_int, dSub_int, dCmp_int, dEq_int, dNe_int, dLen_list, dLen_tup, dInt_int, dItems_list, dItems_tup, dListOf_list, dListOf_tup, dTuple_list, dTuple_tup, dLst_0, dTup_0, dLst_1, dTup_1, dLst_2, dTup_2, dLst_3, dTup_3, dLst_4, dTup_4, dLst_5, dTup_5, dLst_6, dTup_6, dLst_7, dTup_7, dLst_8, dTup_8, dLst_9, dTup_9, dLst_10, dTup_10, dLst_11, dTup_11, dLst_12, dTup_12, dIsN, dNeg_int, isI, dInt1])
    refine (t_any (Q := PD) (by simp) (by simp) fun x hx => ?_).noxB fun d hd => .pure ⟨d, rfl, hd⟩
    have q1 : PD (.list (cutL rows none (some k) ++ [odd] ++ cutL rows (some k) none)) := pd_list (by simp; omega) (app (app (c3 _ _) hodd') (c3 _ _))
    have q2 : PD (.list (cutL rows none (some k) ++ [odd])) := pd_list (by simp; omega) (app (c3 _ _) hodd')
    have q3 : PD (.list (cutL rows none (some k) ++ cutL rows (some (k + 1)) none)) := pd_list (by simp; omega) (app (c3 _ _) (c3 _ _))
    have q4 : PD (.list rows.reverse) := pd_list (by simp; omega) fun x hx => hr x (by simpa using hx)
    have q5 : PD (.list (rows ++ cutL rows (some (-1)) none)) := pd_list (by simp; omega) (app hr (c3 _ _))
    simp only [List.cons_append, List.nil_append, List.mem_cons, List.not_mem_nil, or_false] at hx
    rcases hx with rfl | rfl | rfl | rfl | rfl | rfl | rfl | rfl | rfl | rfl | rfl | rfl | rfl | rfl | rfl
    · exact q1
    · exact q2
    · exact q3
    · exact q4
    · exact q5
    · exact q1
    · exact q2
    · exact q3
    · exact q4
    · exact q5
    · exact pd_tup (by omega)
    · exact pd_none
    · exact hodd
    · exact pd_dict _
    · exact hdeep
end Law
end
section
set_option Elab.async false
set_option linter.all false
set_option maxRecDepth 100000
set_option maxHeartbeats 400000
namespace Law
open PySem PySem.Spec PyProof.Rows L2 Sim
theorem dItems_encB (b : List Int) : dItems (encB b) = some (b.map .int) := rfl
theorem dLen_encB (b : List Int) : dLen [encB b] = some (.int (b.length : Nat)) := by simp [encB, dLen]
theorem dLen_encH (b : List (List Int)) : dLen [encH b] = some (.int (b.length : Nat)) := by simp [encH, dLen]
def wantB (ps : List Int) (u : Int) (c : Int) : Bool := ps.contains c && !decide (c = u)
theorem want_eq (ps : List Int) (u : Int) (c : Int) : (mAnd (mCmp dIn (M.pure (.int c)) (M.pure (encB ps))) (mCmp dNe (M.pure (.int c)) (M.pure (.int u)))) = M.pure (wantB ps u c) := by
  (try simp only [mCons, mB, mBB, mBL, mSeq, mBin, mBinL, mCmp, mChain, mOfB, mOfL, mTo, mIsI, mIsI2, mNot, mAnd, mOr, mIf, mIfx, mIfj, mRet, mRetL, mDo, mUnp, mSl, mSlL, mEnd, mApp, mExt, mRem, mStore, mRaise1, mPar, mParLL, mRng1, mRng2, mTRng, mLRng, mIxT, mStoreT, mDict1, mApp2, mPut2, mAppPop, M.bind_assoc, M.pure_bind, M.opt_some, M.raise_bind, callP_bind, callL_bind, callS_bind, callSL_bind, mForB_bind, mCompB_bind, mCompBL_bind, callP_0, callP_1, callP_2, callP_3, callP_4, callP_5, callP_6, callL_0, callL_1, callL_2, callL_3, callL_4, callL_5, callL_6, callS_0, callS_1, callS_2, callS_3, callS_4, callS_5, callS_6, callSL_0, callSL_1, callSL_2, callSL_3, callSL_4, M.pur_pure, M.pur_raise, M.nox_pure, retD_bind, retD_ret, retD_nx, retD_raise, retLst_bind, retLst_retL, retLst_raise, exits_bind, exits_ret, exits_retL, exits_brk, exits_cnt, exits_raise, andThen_bind, andThen_nx, andThen_ret, andThen_retL, andThen_brk, andThen_cnt, andThen_raise, bnd2, bnd3, bnd4, bndL2, if_true, if_false, Bool.false_eq_true, Bool.not_true, Bool.not_false, reduceIte, dAdd_int, dSub_int, dCmp_int, dEq_int, dNe_int, dLen_list, dLen_tup, dInt_int, dItems_list, dItems_tup, dListOf_list, dListOf_tup, dTuple_list, dTuple_tup, dLst_0, dTup_0, dLst_1, dTup_1, dLst_2, dTup_2, dLst_3, dTup_3, dLst_4, dTup_4, dLst_5, dTup_5, dLst_6, dTup_6, dLst_7, dTup_7, dLst_8, dTup_8, dLst_9, dTup_9, dLst_10, dTup_10, dLst_11, dTup_11, dLst_12, dTup_12, dIsN, dNeg_int, isI, dInt1, dIn_ints])
  unfold wantB
  cases ps.contains c <;> rfl
def unI : D → Int
  | .int i => i
  | _ => 0
theorem some_eq {H : List (List Int)} {ps : List Int} {u : Int} (h0 : 0 ≤ u) (h1 : u < H.length) (hb : (bk H u).length ≤ 1000) :
    (mBB dAny (mCons (mOfL (mCompB (mSeq (mBin dItem (M.pure (encH H)) (M.pure (.int u)))) some yes (fun xcard => (mOfB (mAnd (mCmp dIn (M.pure xcard) (M.pure (encB ps))) (mCmp dNe (M.pure xcard) (M.pure (.int u)))))))) (M.pure []))) = M.pure ((bk H u).any (wantB ps u)) := by
  have e1 : mSeq (mBin dItem (M.pure (encH H)) (M.pure (.int u))) = M.pure ((bk H u).map .int) := by
    (try simp only [mCons, mB, mBB, mBL, mSeq, mBin, mBinL, mCmp, mChain, mOfB, mOfL, mTo, mIsI, mIsI2, mNot, mAnd, mOr, mIf, mIfx, mIfj, mRet, mRetL, mDo, mUnp, mSl, mSlL, mEnd, mApp, mExt, mRem, mStore, mRaise1, mPar, mParLL, mRng1, mRng2, mTRng, mLRng, mIxT, mStoreT, mDict1, mApp2, mPut2, mAppPop, M.bind_assoc, M.pure_bind, M.opt_some, M.raise_bind, callP_bind, callL_bind, callS_bind, callSL_bind, mForB_bind, mCompB_bind, mCompBL_bind, callP_0, callP_1, callP_2, callP_3, callP_4, callP_5, callP_6, callL_0, callL_1, callL_2, callL_3, callL_4, callL_5, callL_6, callS_0, callS_1, callS_2, callS_3, callS_4, callS_5, callS_6, callSL_0, callSL_1, callSL_2, callSL_3, callSL_4, M.pur_pure, M.pur_raise, M.nox_pure, retD_bind, retD_ret, retD_nx, retD_raise, retLst_bind, retLst_retL, retLst_raise, exits_bind, exits_ret, exits_retL, exits_brk, exits_cnt, exits_raise, andThen_bind, andThen_nx, andThen_ret, andThen_retL, andThen_brk, andThen_cnt, andThen_raise, bnd2, bnd3, bnd4, bndL2, if_true, if_false, Bool.false_eq_true, Bool.not_true, Bool.not_false, reduceIte, dAdd_int, dSub_int, dCmp_int, dEq_int, dNe_int, dLen_list, dLen_tup, dInt_int, dItems_list, dItems_tup, dListOf_list, dListOf_tup, dTuple_list, dTuple_tup, dLst_0, dTup_0, dLst_1, dTup_1, dLst_2, dTup_2, dLst_3, dTup_3, dLst_4, dTup_4, dLst_5, dTup_5, dLst_6, dTup_6, dLst_7, dTup_7, dLst_8, dTup_8, dLst_9, dTup_9, dLst_10, dTup_10, dLst_11, dTup_11, dLst_12, dTup_12, dIsN, dNeg_int, isI, dInt1, encH_at h0 h1])
    rfl
  rw [e1, mCompB_map (g := fun d => .bool (wantB ps u (unI d))) (by simp; omega) fun d hd => ?_]
  · show M.opt (dAny [.list _]) = _
    rw [dAny_map (fun d => wantB ps u (unI d))]
    simp [List.any_map]
    rfl
  · obtain ⟨c, hc, rfl⟩ := List.mem_map.mp hd
    refine ⟨_, rfl, ?_⟩
    rw [want_eq]
    rfl
theorem t_turns {h : List (List Int)} {ps : List Int} {many : Int} (hh : HallT h) (hp : PlayT h.length ps) (m0 : 0 ≤ many) (m1 : many ≤ 1000) :
    Tri (M__law_drawn_turns [encH h, encB ps, .int many]) fun d => ∃ rows h', d = .tuple [.list rows, encH h'] ∧ rows.length ≤ many.toNat ∧ fb ps h rows = none := by
  show Tri (retD (B__law_drawn_turns (encH h) (encB ps) (.int many))) _
  refine .retD ?_
  unfold B__law_drawn_turns
  rw [mBL_pure, dLst_0, M.opt_some, M.pure_bind]
  have e0 : mBL dRng1 (mCons (M.pure (.int many)) (M.pure [])) = M.pure (rngD 0 many.toNat) := by
    (try simp only [mCons, mB, mBB, mBL, mSeq, mBin, mBinL, mCmp, mChain, mOfB, mOfL, mTo, mIsI, mIsI2, mNot, mAnd, mOr, mIf, mIfx, mIfj, mRet, mRetL, mDo, mUnp, mSl, mSlL, mEnd, mApp, mExt, mRem, mStore, mRaise1, mPar, mParLL, mRng1, mRng2, mTRng, mLRng, mIxT, mStoreT, mDict1, mApp2, mPut2, mAppPop, M.bind_assoc, M.pure_bind, M.opt_some, M.raise_bind, callP_bind, callL_bind, callS_bind, callSL_bind, mForB_bind, mCompB_bind, mCompBL_bind, callP_0, callP_1, callP_2, callP_3, callP_4, callP_5, callP_6, callL_0, callL_1, callL_2, callL_3, callL_4, callL_5, callL_6, callS_0, callS_1, callS_2, callS_3, callS_4, callS_5, callS_6, callSL_0, callSL_1, callSL_2, callSL_3, callSL_4, M.pur_pure, M.pur_raise, M.nox_pure, retD_bind, retD_ret, retD_nx, retD_raise, retLst_bind, retLst_retL, retLst_raise, exits_bind, exits_ret, exits_retL, exits_brk, exits_cnt, exits_raise, andThen_bind, andThen_nx, andThen_ret, andThen_retL, andThen_brk, andThen_cnt, andThen_raise, bnd2, bnd3, bnd4, bndL2, if_true, if_false, Bool.false_eq_true, Bool.not_true, Bool.not_false, reduceIte, dAdd_int, dSub_int, dCmp_int, dEq_int, dNe_int, dLen_list, dLen_tup, dInt_int, dItems_list, dItems_tup, dListOf_list, dListOf_tup, dTuple_list, dTuple_tup, dLst_0, dTup_0, dLst_1, dTup_1, dLst_2, dTup_2, dLst_3, dTup_3, dLst_4, dTup_4, dLst_5, dTup_5, dLst_6, dTup_6, dLst_7, dTup_7, dLst_8, dTup_8, dLst_9, dTup_9, dLst_10, dTup_10, dLst_11, dTup_11, dLst_12, dTup_12, dIsN, dNeg_int, isI, dInt1, rng1_ok (n := many) (by omega)])
  rw [e0]
  refine Tri.forB (fun i (a : List D × D) => a.2 = encH (endH h a.1) ∧ fb ps h a.1 = none ∧ a.1.length ≤ i ∧ HallT (endH h a.1) ∧ (endH h a.1).length = h.length) ⟨rfl, rfl, by simp, hh, rfl⟩ (fun i d a hd ⟨ea, hf, hal, hH, hHl⟩ => ⟨d, rfl, ?_⟩) fun a ⟨ea, hf, hal, hH, hHl⟩ => ?_
  · obtain ⟨rows, hd'⟩ := a
    simp only at ea hf hal hH hHl
    subst ea
    have hi : i < many.toNat := by
      have := (List.getElem?_eq_some_iff.mp hd).1
      simpa [rngD_len] using this
    generalize hHe : endH h rows = H at *
    have rng : ∀ u ∈ ps, 0 ≤ u ∧ u < (H.length : Int) := fun u hu => by
      have := hp.2 u hu
      omega
    have bks : ∀ u ∈ ps, BookT H.length (bk H u) := fun u hu => bk_T hH (rng u hu).1 (rng u hu).2
    have hpl := hp.len
    have hhl := hh.2.1
    have e1 : mSeq (M.pure (encB ps)) = M.pure (ps.map .int) := rfl
    rw [e1, mCompB_filter (p := fun d => (bk H (unI d)).any (wantB ps (unI d))) (by simp; omega) fun d hd => by
      obtain ⟨u, hu, rfl⟩ := List.mem_map.mp hd
      exact some_eq (rng u hu).1 (rng u hu).2 (by have := (bks u hu).1; omega)]
    rw [M.pure_bind]
    have keep : Tri (M.pure (.nx (rows, encH H)) : M (Out (List D × D) (List D × D))) fun o => ∃ a', (o = .nx a' ∨ o = .cnt a') ∧ (a'.2 = encH (endH h a'.1) ∧ fb ps h a'.1 = none ∧ a'.1.length ≤ i + 1 ∧ HallT (endH h a'.1) ∧ (endH h a'.1).length = h.length) :=
      .pure ⟨_, .inl rfl, by rw [hHe], hf, by simp; omega, by rw [hHe]; exact hH, by rw [hHe]; exact hHl⟩
    by_cases hs : 0 < ((ps.map PyData.int).filter fun d => (bk H (unI d)).any (wantB ps (unI d))).length
    · have hs' : (0 : Int) < ((((ps.map PyData.int).filter fun d => (bk H (unI d)).any (wantB ps (unI d))).length : Nat) : Int) := by omega
      (try simp only [mCons, mB, mBB, mBL, mSeq, mBin, mBinL, mCmp, mChain, mOfB, mOfL, mTo, mIsI, mIsI2, mNot, mAnd, mOr, mIf, mIfx, mIfj, mRet, mRetL, mDo, mUnp, mSl, mSlL, mEnd, mApp, mExt, mRem, mStore, mRaise1, mPar, mParLL, mRng1, mRng2, mTRng, mLRng, mIxT, mStoreT, mDict1, mApp2, mPut2, mAppPop, M.bind_assoc, M.pure_bind, M.opt_some, M.raise_bind, callP_bind, callL_bind, callS_bind, callSL_bind, mForB_bind, mCompB_bind, mCompBL_bind, callP_0, callP_1, callP_2, callP_3, callP_4, callP_5, callP_6, callL_0, callL_1, callL_2, callL_3, callL_4, callL_5, callL_6, callS_0, callS_1, callS_2, callS_3, callS_4, callS_5, callS_6, callSL_0, callSL_1, callSL_2, callSL_3, callSL_4, M.pur_pure, M.pur_raise, M.nox_pure, retD_bind, retD_ret, retD_nx, retD_raise, retLst_bind, retLst_retL, retLst_raise, exits_bind, exits_ret, exits_retL, exits_brk, exits_cnt, exits_raise, andThen_bind, andThen_nx, andThen_ret, andThen_retL, andThen_brk, andThen_cnt, andThen_raise, bnd2, bnd3, bnd4, bndL2, if_true, if_false, Bool.false_eq_true, Bool.not_true, Bool.not_false, reduceIte, dAdd_int, dSub_int, dCmp_int, dEq_int, dNe_int, dLen_list, dLen_tup, dInt_int, dItems_list, dItems_tup, dListOf_list, dListOf_tup, dTuple_list, dTuple_tup, dLst_0, dTup_0, dLst_1, dTup_1, dLst_2, dTup_2, dLst_3, dTup_3, dLst_4, dTup_4, dLst_5, dTup_5, dLst_6, dTup_6, dLst_7, dTup_7, dLst_8, dTup_8, dLst_9, dTup_9, dLst_10, dTup_10, dLst_11, dTup_11, dLst_12, dTup_12, dIsN, dNeg_int, isI, dInt1, hs', decide_true])
      refine (t_any (Q := fun d => ∃ u, d = .int u ∧ u ∈ ps ∧ (bk H u).any (wantB ps u) = true) hs (by have := List.length_filter_le (fun d => (bk H (unI d)).any (wantB ps (unI d))) (ps.map PyData.int); simp at this; omega) fun x hx => ?_).noxB fun d ⟨u, e, hu, hw⟩ => ?_
      · obtain ⟨h1, h2⟩ := List.mem_filter.mp hx
        obtain ⟨u, hu, rfl⟩ := List.mem_map.mp h1
        exact ⟨u, rfl, hu, h2⟩
      · subst e
        obtain ⟨u0, u1⟩ := rng u hu
        rw [encH_at u0 u1]
        (try simp only [mCons, mB, mBB, mBL, mSeq, mBin, mBinL, mCmp, mChain, mOfB, mOfL, mTo, mIsI, mIsI2, mNot, mAnd, mOr, mIf, mIfx, mIfj, mRet, mRetL, mDo, mUnp, mSl, mSlL, mEnd, mApp, mExt, mRem, mStore, mRaise1, mPar, mParLL, mRng1, mRng2, mTRng, mLRng, mIxT, mStoreT, mDict1, mApp2, mPut2, mAppPop, M.bind_assoc, M.pure_bind, M.opt_some, M.raise_bind, callP_bind, callL_bind, callS_bind, callSL_bind, mForB_bind, mCompB_bind, mCompBL_bind, callP_0, callP_1, callP_2, callP_3, callP_4, callP_5, callP_6, callL_0, callL_1, callL_2, callL_3, callL_4, callL_5, callL_6, callS_0, callS_1, callS_2, callS_3, callS_4, callS_5, callS_6, callSL_0, callSL_1, callSL_2, callSL_3, callSL_4, M.pur_pure, M.pur_raise, M.nox_pure, retD_bind, retD_ret, retD_nx, retD_raise, retLst_bind, retLst_retL, retLst_raise, exits_bind, exits_ret, exits_retL, exits_brk, exits_cnt, exits_raise, andThen_bind, andThen_nx, andThen_ret, andThen_retL, andThen_brk, andThen_cnt, andThen_raise, bnd2, bnd3, bnd4, bndL2, if_true, if_false, Bool.false_eq_true, Bool.not_true, Bool.not_false, reduceIte, dAdd_int, dSub_int, dCmp_int, dEq_int, dNe_int, dLen_list, dLen_tup, dInt_int, dItems_list, dItems_tup, dListOf_list, dListOf_tup, dTuple_list, dTuple_tup, dLst_0, dTup_0, dLst_1, dTup_1, dLst_2, dTup_2, dLst_3, dTup_3, dLst_4, dTup_4, dLst_5, dTup_5, dLst_6, dTup_6, dLst_7, dTup_7, dLst_8, dTup_8, dLst_9, dTup_9, dLst_10, dTup_10, dLst_11, dTup_11, dLst_12, dTup_12, dIsN, dNeg_int, isI, dInt1, dItems_encB])
        rw [mCompB_filter (p := fun d => wantB ps u (unI d)) (l := (H.getD u.toNat []).map .int) (by have := (bks u hu).1; simp; unfold bk at this; rw [List.getD_eq_getElem?_getD] at this; omega) fun d hd => by
          obtain ⟨c, hc, rfl⟩ := List.mem_map.mp hd
          have := want_eq ps u c
          revert this
          (try simp only [mCons, mB, mBB, mBL, mSeq, mBin, mBinL, mCmp, mChain, mOfB, mOfL, mTo, mIsI, mIsI2, mNot, mAnd, mOr, mIf, mIfx, mIfj, mRet, mRetL, mDo, mUnp, mSl, mSlL, mEnd, mApp, mExt, mRem, mStore, mRaise1, mPar, mParLL, mRng1, mRng2, mTRng, mLRng, mIxT, mStoreT, mDict1, mApp2, mPut2, mAppPop, M.bind_assoc, M.pure_bind, M.opt_some, M.raise_bind, callP_bind, callL_bind, callS_bind, callSL_bind, mForB_bind, mCompB_bind, mCompBL_bind, callP_0, callP_1, callP_2, callP_3, callP_4, callP_5, callP_6, callL_0, callL_1, callL_2, callL_3, callL_4, callL_5, callL_6, callS_0, callS_1, callS_2, callS_3, callS_4, callS_5, callS_6, callSL_0, callSL_1, callSL_2, callSL_3, callSL_4, M.pur_pure, M.pur_raise, M.nox_pure, retD_bind, retD_ret, retD_nx, retD_raise, retLst_bind, retLst_retL, retLst_raise, exits_bind, exits_ret, exits_retL, exits_brk, exits_cnt, exits_raise, andThen_bind, andThen_nx, andThen_ret, andThen_retL, andThen_brk, andThen_cnt, andThen_raise, bnd2, bnd3, bnd4, bndL2, if_true, if_false, Bool.false_eq_true, Bool.not_true, Bool.not_false, reduceIte, dAdd_int, dSub_int, dCmp_int, dEq_int, dNe_int, dLen_list, dLen_tup, dInt_int, dItems_list, dItems_tup, dListOf_list, dListOf_tup, dTuple_list, dTuple_tup, dLst_0, dTup_0, dLst_1, dTup_1, dLst_2, dTup_2, dLst_3, dTup_3, dLst_4, dTup_4, dLst_5, dTup_5, dLst_6, dTup_6, dLst_7, dTup_7, dLst_8, dTup_8, dLst_9, dTup_9, dLst_10, dTup_10, dLst_11, dTup_11, dLst_12, dTup_12, dIsN, dNeg_int, isI, dInt1])
          exact id]
        (try simp only [mCons, mB, mBB, mBL, mSeq, mBin, mBinL, mCmp, mChain, mOfB, mOfL, mTo, mIsI, mIsI2, mNot, mAnd, mOr, mIf, mIfx, mIfj, mRet, mRetL, mDo, mUnp, mSl, mSlL, mEnd, mApp, mExt, mRem, mStore, mRaise1, mPar, mParLL, mRng1, mRng2, mTRng, mLRng, mIxT, mStoreT, mDict1, mApp2, mPut2, mAppPop, M.bind_assoc, M.pure_bind, M.opt_some, M.raise_bind, callP_bind, callL_bind, callS_bind, callSL_bind, mForB_bind, mCompB_bind, mCompBL_bind, callP_0, callP_1, callP_2, callP_3, callP_4, callP_5, callP_6, callL_0, callL_1, callL_2, callL_3, callL_4, callL_5, callL_6, callS_0, callS_1, callS_2, callS_3, callS_4, callS_5, callS_6, callSL_0, callSL_1, callSL_2, callSL_3, callSL_4, M.pur_pure, M.pur_raise, M.nox_pure, retD_bind, retD_ret, retD_nx, retD_raise, retLst_bind, retLst_retL, retLst_raise, exits_bind, exits_ret, exits_retL, exits_brk, exits_cnt, exits_raise, andThen_bind, andThen_nx, andThen_ret, andThen_retL, andThen_brk, andThen_cnt, andThen_raise, bnd2, bnd3, bnd4, bndL2, if_true, if_false, Bool.false_eq_true, Bool.not_true, Bool.not_false, reduceIte, dAdd_int, dSub_int, dCmp_int, dEq_int, dNe_int, dLen_list, dLen_tup, dInt_int, dItems_list, dItems_tup, dListOf_list, dListOf_tup, dTuple_list, dTuple_tup, dLst_0, dTup_0, dLst_1, dTup_1, dLst_2, dTup_2, dLst_3, dTup_3, dLst_4, dTup_4, dLst_5, dTup_5, dLst_6, dTup_6, dLst_7, dTup_7, dLst_8, dTup_8, dLst_9, dTup_9, dLst_10, dTup_10, dLst_11, dTup_11, dLst_12, dTup_12, dIsN, dNeg_int, isI, dInt1])
        refine (t_any (Q := fun d => ∃ v, d = .int v ∧ v ∈ ps ∧ v ≠ u ∧ v ∈ bk H u) ?_ ?_ fun x hx => ?_).noxB fun d ⟨v, e, hv, hvu, hvb⟩ => ?_
        · obtain ⟨c, hc, hw'⟩ := List.any_eq_true.mp hw
          have : PyData.int c ∈ ((H.getD u.toNat []).map PyData.int).filter fun d => wantB ps u (unI d) := List.mem_filter.mpr ⟨List.mem_map_of_mem hc, hw'⟩
          exact List.length_pos_of_mem this
        · have := List.length_filter_le (fun d => wantB ps u (unI d)) ((H.getD u.toNat []).map PyData.int)
          have h2 := (bks u hu).1
          unfold bk at h2
          rw [List.length_map] at this
          omega
        · obtain ⟨h1, h2⟩ := List.mem_filter.mp hx
          obtain ⟨c, hc, rfl⟩ := List.mem_map.mp h1
          simp only [wantB, unI, Bool.and_eq_true, List.contains_iff_mem, Bool.not_eq_true', decide_eq_false_iff_not] at h2
          exact ⟨c, rfl, h2.1, of_decide_eq_false h2.2, hc⟩
        · subst e
          obtain ⟨v0, v1⟩ := rng v hv
          rw [encH_at v0 v1]
          (try simp only [mCons, mB, mBB, mBL, mSeq, mBin, mBinL, mCmp, mChain, mOfB, mOfL, mTo, mIsI, mIsI2, mNot, mAnd, mOr, mIf, mIfx, mIfj, mRet, mRetL, mDo, mUnp, mSl, mSlL, mEnd, mApp, mExt, mRem, mStore, mRaise1, mPar, mParLL, mRng1, mRng2, mTRng, mLRng, mIxT, mStoreT, mDict1, mApp2, mPut2, mAppPop, M.bind_assoc, M.pure_bind, M.opt_some, M.raise_bind, callP_bind, callL_bind, callS_bind, callSL_bind, mForB_bind, mCompB_bind, mCompBL_bind, callP_0, callP_1, callP_2, callP_3, callP_4, callP_5, callP_6, callL_0, callL_1, callL_2, callL_3, callL_4, callL_5, callL_6, callS_0, callS_1, callS_2, callS_3, callS_4, callS_5, callS_6, callSL_0, callSL_1, callSL_2, callSL_3, callSL_4, M.pur_pure, M.pur_raise, M.nox_pure, retD_bind, retD_ret, retD_nx, retD_raise, retLst_bind, retLst_retL, retLst_raise, exits_bind, exits_ret, exits_retL, exits_brk, exits_cnt, exits_raise, andThen_bind, andThen_nx, andThen_ret, andThen_retL, andThen_brk, andThen_cnt, andThen_raise, bnd2, bnd3, bnd4, bndL2, if_true, if_false, Bool.false_eq_true, Bool.not_true, Bool.not_false, reduceIte, dAdd_int, dSub_int, dCmp_int, dEq_int, dNe_int, dLen_list, dLen_tup, dInt_int, dItems_list, dItems_tup, dListOf_list, dListOf_tup, dTuple_list, dTuple_tup, dLst_0, dTup_0, dLst_1, dTup_1, dLst_2, dTup_2, dLst_3, dTup_3, dLst_4, dTup_4, dLst_5, dTup_5, dLst_6, dTup_6, dLst_7, dTup_7, dLst_8, dTup_8, dLst_9, dTup_9, dLst_10, dTup_10, dLst_11, dTup_11, dLst_12, dTup_12, dIsN, dNeg_int, isI, dInt1, dLen_encB])
          by_cases hb : (0 : Int) < ((H.getD v.toNat []).length : Nat)
          · (try simp only [mCons, mB, mBB, mBL, mSeq, mBin, mBinL, mCmp, mChain, mOfB, mOfL, mTo, mIsI, mIsI2, mNot, mAnd, mOr, mIf, mIfx, mIfj, mRet, mRetL, mDo, mUnp, mSl, mSlL, mEnd, mApp, mExt, mRem, mStore, mRaise1, mPar, mParLL, mRng1, mRng2, mTRng, mLRng, mIxT, mStoreT, mDict1, mApp2, mPut2, mAppPop, M.bind_assoc, M.pure_bind, M.opt_some, M.raise_bind, callP_bind, callL_bind, callS_bind, callSL_bind, mForB_bind, mCompB_bind, mCompBL_bind, callP_0, callP_1, callP_2, callP_3, callP_4, callP_5, callP_6, callL_0, callL_1, callL_2, callL_3, callL_4, callL_5, callL_6, callS_0, callS_1, callS_2, callS_3, callS_4, callS_5, callS_6, callSL_0, callSL_1, callSL_2, callSL_3, callSL_4, M.pur_pure, M.pur_raise, M.nox_pure, retD_bind, retD_ret, retD_nx, retD_raise, retLst_bind, retLst_retL, retLst_raise, exits_bind, exits_ret, exits_retL, exits_brk, exits_cnt, exits_raise, andThen_bind, andThen_nx, andThen_ret, andThen_retL, andThen_brk, andThen_cnt, andThen_raise, bnd2, bnd3, bnd4, bndL2, if_true, if_false, Bool.false_eq_true, Bool.not_true, Bool.not_false, reduceIte, dAdd_int, dSub_int, dCmp_int, dEq_int, dNe_int, dLen_list, dLen_tup, dInt_int, dItems_list, dItems_tup, dListOf_list, dListOf_tup, dTuple_list, dTuple_tup, dLst_0, dTup_0, dLst_1, dTup_1, dLst_2, dTup_2, dLst_3, dTup_3, dLst_4, dTup_4, dLst_5, dTup_5, dLst_6, dTup_6, dLst_7, dTup_7, dLst_8, dTup_8, dLst_9, dTup_9, dLst_10, dTup_10, dLst_11, dTup_11, dLst_12, dTup_12, dIsN, dNeg_int, isI, dInt1, hb, decide_true])
            refine (t_anyT (l := (H.getD v.toNat []).map .int) (Q := fun d => ∃ g, d = .int g ∧ g ∈ bk H v) (by rw [List.length_map]; omega) (by have := (bks v hv).1; unfold bk at this; rw [List.length_map]; omega) fun x hx => ?_).noxB fun d ⟨g, e, hg⟩ => ?_
            · obtain ⟨c, hc, rfl⟩ := List.mem_map.mp hx
              exact ⟨c, rfl, hc⟩
            · subst e
              have hgoes : goesT H ps u v g = true := by
                have hgr := (bks v hv).2.2 g hg
                unfold goesT
                simp only [Bool.and_eq_true, decide_eq_true_eq, List.contains_iff_mem]
                exact ⟨⟨⟨⟨⟨⟨⟨⟨u0, u1⟩, v0, v1⟩, hgr⟩, fun z => hvu z.symm⟩, hu⟩, hv⟩, hvb⟩, hg⟩
              have e2 : dApp rows (.tuple [.int u, .int v, .int g]) = some (rows ++ [.tuple [.int u, .int v, .int g]]) := if_pos (by omega)
              have e3 : dItem (.list (rows ++ [.tuple [.int u, .int v, .int g]])) (.int (-1)) = some (.tuple [.int u, .int v, .int g]) := last_at (by simp)
              (try simp only [mCons, mB, mBB, mBL, mSeq, mBin, mBinL, mCmp, mChain, mOfB, mOfL, mTo, mIsI, mIsI2, mNot, mAnd, mOr, mIf, mIfx, mIfj, mRet, mRetL, mDo, mUnp, mSl, mSlL, mEnd, mApp, mExt, mRem, mStore, mRaise1, mPar, mParLL, mRng1, mRng2, mTRng, mLRng, mIxT, mStoreT, mDict1, mApp2, mPut2, mAppPop, M.bind_assoc, M.pure_bind, M.opt_some, M.raise_bind, callP_bind, callL_bind, callS_bind, callSL_bind, mForB_bind, mCompB_bind, mCompBL_bind, callP_0, callP_1, callP_2, callP_3, callP_4, callP_5, callP_6, callL_0, callL_1, callL_2, callL_3, callL_4, callL_5, callL_6, callS_0, callS_1, callS_2, callS_3, callS_4, callS_5, callS_6, callSL_0, callSL_1, callSL_2, callSL_3, callSL_4, M.pur_pure, M.pur_raise, M.nox_pure, retD_bind, retD_ret, retD_nx, retD_raise, retLst_bind, retLst_retL, retLst_raise, exits_bind, exits_ret, exits_retL, exits_brk, exits_cnt, exits_raise, andThen_bind, andThen_nx, andThen_ret, andThen_retL, andThen_brk, andThen_cnt, andThen_raise, bnd2, bnd3, bnd4, bndL2, if_true, if_false, Bool.false_eq_true, Bool.not_true, Bool.not_false, reduceIte, dAdd_int, dSub_int, dCmp_int, dEq_int, dNe_int, dLen_list, dLen_tup, dInt_int, dItems_list, dItems_tup, dListOf_list, dListOf_tup, dTuple_list, dTuple_tup, dLst_0, dTup_0, dLst_1, dTup_1, dLst_2, dTup_2, dLst_3, dTup_3, dLst_4, dTup_4, dLst_5, dTup_5, dLst_6, dTup_6, dLst_7, dTup_7, dLst_8, dTup_8, dLst_9, dTup_9, dLst_10, dTup_10, dLst_11, dTup_11, dLst_12, dTup_12, dIsN, dNeg_int, isI, dInt1, e2, e3, m_law_done hgoes hH.sb (by omega)])
              have e4 : endH h (rows ++ [.tuple [.int u, .int v, .int g]]) = doneT H u v g := by
                unfold endH at hHe ⊢
                rw [List.foldl_append, hHe]
                rfl
              refine .pure ⟨_, .inl rfl, by simp only [e4], fb_snoc hf (by rw [hHe]; exact hgoes), by simp; omega, by simp only [e4]; exact doneT_T hH hgoes, by simp only [e4]; rw [doneT_len]; exact hHl⟩
          · (try simp only [mCons, mB, mBB, mBL, mSeq, mBin, mBinL, mCmp, mChain, mOfB, mOfL, mTo, mIsI, mIsI2, mNot, mAnd, mOr, mIf, mIfx, mIfj, mRet, mRetL, mDo, mUnp, mSl, mSlL, mEnd, mApp, mExt, mRem, mStore, mRaise1, mPar, mParLL, mRng1, mRng2, mTRng, mLRng, mIxT, mStoreT, mDict1, mApp2, mPut2, mAppPop, M.bind_assoc, M.pure_bind, M.opt_some, M.raise_bind, callP_bind, callL_bind, callS_bind, callSL_bind, mForB_bind, mCompB_bind, mCompBL_bind, callP_0, callP_1, callP_2, callP_3, callP_4, callP_5, callP_6, callL_0, callL_1, callL_2, callL_3, callL_4, callL_5, callL_6, callS_0, callS_1, callS_2, callS_3, callS_4, callS_5, callS_6, callSL_0, callSL_1, callSL_2, callSL_3, callSL_4, M.pur_pure, M.pur_raise, M.nox_pure, retD_bind, retD_ret, retD_nx, retD_raise, retLst_bind, retLst_retL, retLst_raise, exits_bind, exits_ret, exits_retL, exits_brk, exits_cnt, exits_raise, andThen_bind, andThen_nx, andThen_ret, andThen_retL, andThen_brk, andThen_cnt, andThen_raise, bnd2, bnd3, bnd4, bndL2, if_true, if_false, Bool.false_eq_true, Bool.not_true, Bool.not_false, reduceIte, dAdd_int, dSub_int, dCmp_int, dEq_int, dNe_int, dLen_list, dLen_tup, dInt_int, dItems_list, dItems_tup, dListOf_list, dListOf_tup, dTuple_list, dTuple_tup, dLst_0, dTup_0, dLst_1, dTup_1, dLst_2, dTup_2, dLst_3, dTup_3, dLst_4, dTup_4, dLst_5, dTup_5, dLst_6, dTup_6, dLst_7, dTup_7, dLst_8, dTup_8, dLst_9, dTup_9, dLst_10, dTup_10, dLst_11, dTup_11, dLst_12, dTup_12, dIsN, dNeg_int, isI, dInt1, hb, decide_false])
            exact keep
    · have hs' : ¬ (0 : Int) < ((((ps.map PyData.int).filter fun d => (bk H (unI d)).any (wantB ps (unI d))).length : Nat) : Int) := by omega
      (try simp only [mCons, mB, mBB, mBL, mSeq, mBin, mBinL, mCmp, mChain, mOfB, mOfL, mTo, mIsI, mIsI2, mNot, mAnd, mOr, mIf, mIfx, mIfj, mRet, mRetL, mDo, mUnp, mSl, mSlL, mEnd, mApp, mExt, mRem, mStore, mRaise1, mPar, mParLL, mRng1, mRng2, mTRng, mLRng, mIxT, mStoreT, mDict1, mApp2, mPut2, mAppPop, M.bind_assoc, M.pure_bind, M.opt_some, M.raise_bind, callP_bind, callL_bind, callS_bind, callSL_bind, mForB_bind, mCompB_bind, mCompBL_bind, callP_0, callP_1, callP_2, callP_3, callP_4, callP_5, callP_6, callL_0, callL_1, callL_2, callL_3, callL_4, callL_5, callL_6, callS_0, callS_1, callS_2, callS_3, callS_4, callS_5, callS_6, callSL_0, callSL_1, callSL_2, callSL_3, callSL_4, M.pur_pure, M.pur_raise, M.nox_pure, retD_bind, retD_ret, retD_nx, retD_raise, retLst_bind, retLst_retL, retLst_raise, exits_bind, exits_ret, exits_retL, exits_brk, exits_cnt, exits_raise, andThen_bind, andThen_nx, andThen_ret, andThen_retL, andThen_brk, andThen_cnt, andThen_raise, bnd2, bnd3, bnd4, bndL2, if_true, if_false, Bool.false_eq_true, Bool.not_true, Bool.not_false, reduceIte, dAdd_int, dSub_int, dCmp_int, dEq_int, dNe_int, dLen_list, dLen_tup, dInt_int, dItems_list, dItems_tup, dListOf_list, dListOf_tup, dTuple_list, dTuple_tup, dLst_0, dTup_0, dLst_1, dTup_1, dLst_2, dTup_2, dLst_3, dTup_3, dLst_4, dTup_4, dLst_5, dTup_5, dLst_6, dTup_6, dLst_7, dTup_7, dLst_8, dTup_8, dLst_9, dTup_9, dLst_10, dTup_10, dLst_11, dTup_11, dLst_12, dTup_12, dIsN, dNeg_int, isI, dInt1, hs', decide_false])
      exact keep
  · (try simp only [mCons, mB, mBB, mBL, mSeq, mBin, mBinL, mCmp, mChain, mOfB, mOfL, mTo, mIsI, mIsI2, mNot, mAnd, mOr, mIf, mIfx, mIfj, mRet, mRetL, mDo, mUnp, mSl, mSlL, mEnd, mApp, mExt, mRem, mStore, mRaise1, mPar, mParLL, mRng1, mRng2, mTRng, mLRng, mIxT, mStoreT, mDict1, mApp2, mPut2, mAppPop, M.bind_assoc, M.pure_bind, M.opt_some, M.raise_bind, callP_bind, callL_bind, callS_bind, callSL_bind, mForB_bind, mCompB_bind, mCompBL_bind, callP_0, callP_1, callP_2, callP_3, callP_4, callP_5, callP_6, callL_0, callL_1, callL_2, callL_3, callL_4, callL_5, callL_6, callS_0, callS_1, callS_2, callS_3, callS_4, callS_5, callS_6, callSL_0, callSL_1, callSL_2, callSL_3, callSL_4, M.pur_pure, M.pur_raise, M.nox_pure, retD_bind, retD_ret, retD_nx, retD_raise, retLst_bind, retLst_retL, retLst_raise, exits_bind, exits_ret, exits_retL, exits_brk, exits_cnt, exits_raise, andThen_bind, andThen_nx, andThen_ret, andThen_retL, andThen_brk, andThen_cnt, andThen_raise, bnd2, bnd3, bnd4, bndL2, if_true, if_false, Bool.false_eq_true, Bool.not_true, Bool.not_false, reduceIte, dAdd_int, dSub_int, dCmp_int, dEq_int, dNe_int, dLen_list, dLen_tup, dInt_int, dItems_list, dItems_tup, dListOf_list, dListOf_tup, dTuple_list, dTuple_tup, dLst_0, dTup_0, dLst_1, dTup_1, dLst_2, dTup_2, dLst_3, dTup_3, dLst_4, dTup_4, dLst_5, dTup_5, dLst_6, dTup_6, dLst_7, dTup_7, dLst_8, dTup_8, dLst_9, dTup_9, dLst_10, dTup_10, dLst_11, dTup_11, dLst_12, dTup_12, dIsN, dNeg_int, isI, dInt1])
    rw [rngD_len] at hal
    exact .pure ⟨_, rfl, a.1, endH h a.1, by rw [ea], hal, hf⟩
end Law
end
section
set_option Elab.async false
set_option linter.all false
set_option maxRecDepth 100000
set_option maxHeartbeats 400000
namespace Law
open PySem PySem.Spec PyProof.Rows L2 Sim
theorem pl_encB {b : List Int} {k : Nat} (h : b.length ≤ 1000000) : pl (k + 1) (encB b) = true := by
  unfold encB
  simp only [pl, Bool.and_eq_true, decide_eq_true_eq, List.all_eq_true, List.length_map]
  refine ⟨h, fun x hx => ?_⟩
  obtain ⟨i, _, rfl⟩ := List.mem_map.mp hx
  cases k <;> rfl
theorem pl_rows {rows : List D} {k : Nat} (hr : RowsI rows) (h : rows.length ≤ 1000000) : pl (k + 2) (.list rows) = true := by
  simp only [pl, Bool.and_eq_true, decide_eq_true_eq, List.all_eq_true]
  refine ⟨h, fun x hx => ?_⟩
  obtain ⟨u, v, g, rfl⟩ := hr x hx
  cases k <;> simp [pl]
theorem rows_sm {rows : List D} (hr : RowsI rows) : ∀ x ∈ rows, Sm x := fun x hx l e => by
  obtain ⟨u, v, g, rfl⟩ := hr x hx
  cases e
  simp
theorem RowsI.take {rows : List D} (hr : RowsI rows) (n : Nat) : RowsI (rows.take n) := fun x hx => hr x (List.mem_of_mem_take hx)
theorem dBool_bool (b : Bool) : dBool (.bool b) = some b := rfl
theorem not_list {d : D} (h : ¬ ∃ l, d = .list l) : ∀ l, d ≠ .list l := fun l e => h ⟨l, e⟩
theorem pl_refused (i : Int) : pl 4 (.tuple [.str "refused", .str "rows", .int i]) = true := by
  have h1 : PyData.strOk "refused" = true := by decide +kernel
  have h2 : PyData.strOk "rows" = true := by decide +kernel
  simp [pl, h1, h2]
theorem t_rows_right {h : List (List Int)} {ps kn : List Int} {rows : List D} (hh : HallT h) (hp : PlayT h.length ps) (hk : PlayT h.length kn) (hf : fb ps h rows = none) (hl : rows.length ≤ 1000) :
    Tri (M__law_rows_right [encH h, encB ps, .list rows, encB kn]) (· = .bool true) := by
  show Tri (retD (B__law_rows_right (encH h) (encB ps) (.list rows) (encB kn))) _
  refine .retD ?_
  unfold B__law_rows_right
  have hr := fb_rowsI hf
  have hkl := hk.len
  have hhl := hh.2.1
  have hkr : riseB h.length (encB kn) = true := riseB_iff.mpr ⟨kn, rfl, hk⟩
  have hks : Sm (encB kn) := sm_encB (by omega)
  obtain ⟨r, er, hrl⟩ := m_spread (rows := rows) (kn := kn) hr (by omega)
  have et := told_goes hh hp (by omega : rows.length ≤ 900000) (rows_sm hr) hf hkr hks
  rw [er, M.pur_pure] at et
  have es := same_self_4 (d := encB r) (pl_encB (by omega))
  (try simp only [mCons, mB, mBB, mBL, mSeq, mBin, mBinL, mCmp, mChain, mOfB, mOfL, mTo, mIsI, mIsI2, mNot, mAnd, mOr, mIf, mIfx, mIfj, mRet, mRetL, mDo, mUnp, mSl, mSlL, mEnd, mApp, mExt, mRem, mStore, mRaise1, mPar, mParLL, mRng1, mRng2, mTRng, mLRng, mIxT, mStoreT, mDict1, mApp2, mPut2, mAppPop, M.bind_assoc, M.pure_bind, M.opt_some, M.raise_bind, callP_bind, callL_bind, callS_bind, callSL_bind, mForB_bind, mCompB_bind, mCompBL_bind, callP_0, callP_1, callP_2, callP_3, callP_4, callP_5, callP_6, callL_0, callL_1, callL_2, callL_3, callL_4, callL_5, callL_6, callS_0, callS_1, callS_2, callS_3, callS_4, callS_5, callS_6, callSL_0, callSL_1, callSL_2, callSL_3, callSL_4, M.pur_pure, M.pur_raise, M.nox_pure, retD_bind, retD_ret, retD_nx, retD_raise, retLst_bind, retLst_retL, retLst_raise, exits_bind, exits_ret, exits_retL, exits_brk, exits_cnt, exits_raise, andThen_bind, andThen_nx, andThen_ret, andThen_retL, andThen_brk, andThen_cnt, andThen_raise, bnd2, bnd3, bnd4, bndL2, if_true, if_false, Bool.false_eq_true, Bool.not_true, Bool.not_false, reduceIte, dAdd_int, dSub_int, dCmp_int, dEq_int, dNe_int, dLen_list, dLen_tup, dInt_int, dItems_list, dItems_tup, dListOf_list, dListOf_tup, dTuple_list, dTuple_tup, dLst_0, dTup_0, dLst_1, dTup_1, dLst_2, dTup_2, dLst_3, dTup_3, dLst_4, dTup_4, dLst_5, dTup_5, dLst_6, dTup_6, dLst_7, dTup_7, dLst_8, dTup_8, dLst_9, dTup_9, dLst_10, dTup_10, dLst_11, dTup_11, dLst_12, dTup_12, dIsN, dNeg_int, isI, dInt1, er, et, es, dBool_bool, dNe_self (pl_rows (k := 0) hr (by omega)) (by decide), dLen_encH])
  refine (t_draw (many := (rows.length : Nat) + 1) (by omega) (by omega)).noxB fun d ⟨k, e, k0, k1⟩ => ?_
  subst e
  have ec : cutL rows none (some k) = rows.take k.toNat := by
    have := cutL_take rows k.toNat
    rwa [Int.toNat_of_nonneg k0] at this
  obtain ⟨r2, er2, hrl2⟩ := m_spread (rows := rows.take k.toNat) (kn := kn) (hr.take _) (by rw [List.length_take]; omega)
  have et2 := told_goes hh hp (by rw [List.length_take]; omega : (rows.take k.toNat).length ≤ 900000) (rows_sm (hr.take _)) (fb_take k.toNat hf) hkr hks
  rw [er2, M.pur_pure] at et2
  have es2 := same_self_4 (d := encB r2) (pl_encB (by rw [List.length_take] at hrl2; omega))
  (try simp only [mCons, mB, mBB, mBL, mSeq, mBin, mBinL, mCmp, mChain, mOfB, mOfL, mTo, mIsI, mIsI2, mNot, mAnd, mOr, mIf, mIfx, mIfj, mRet, mRetL, mDo, mUnp, mSl, mSlL, mEnd, mApp, mExt, mRem, mStore, mRaise1, mPar, mParLL, mRng1, mRng2, mTRng, mLRng, mIxT, mStoreT, mDict1, mApp2, mPut2, mAppPop, M.bind_assoc, M.pure_bind, M.opt_some, M.raise_bind, callP_bind, callL_bind, callS_bind, callSL_bind, mForB_bind, mCompB_bind, mCompBL_bind, callP_0, callP_1, callP_2, callP_3, callP_4, callP_5, callP_6, callL_0, callL_1, callL_2, callL_3, callL_4, callL_5, callL_6, callS_0, callS_1, callS_2, callS_3, callS_4, callS_5, callS_6, callSL_0, callSL_1, callSL_2, callSL_3, callSL_4, M.pur_pure, M.pur_raise, M.nox_pure, retD_bind, retD_ret, retD_nx, retD_raise, retLst_bind, retLst_retL, retLst_raise, exits_bind, exits_ret, exits_retL, exits_brk, exits_cnt, exits_raise, andThen_bind, andThen_nx, andThen_ret, andThen_retL, andThen_brk, andThen_cnt, andThen_raise, bnd2, bnd3, bnd4, bndL2, if_true, if_false, Bool.false_eq_true, Bool.not_true, Bool.not_false, reduceIte, dAdd_int, dSub_int, dCmp_int, dEq_int, dNe_int, dLen_list, dLen_tup, dInt_int, dItems_list, dItems_tup, dListOf_list, dListOf_tup, dTuple_list, dTuple_tup, dLst_0, dTup_0, dLst_1, dTup_1, dLst_2, dTup_2, dLst_3, dTup_3, dLst_4, dTup_4, dLst_5, dTup_5, dLst_6, dTup_6, dLst_7, dTup_7, dLst_8, dTup_8, dLst_9, dTup_9, dLst_10, dTup_10, dLst_11, dTup_11, dLst_12, dTup_12, dIsN, dNeg_int, isI, dInt1, dSliceL_list, ec, er2, et2, es2, dBool_bool])
  refine (t_bent (n := h.length) (rows_sm hr) hl (by have := hh.1; omega) (by omega)).noxB fun bent hb => ?_
  have anyOdd : ∀ {f : D → M (Out Unit Unit)} {R : Out Unit Unit → Prop}, (∀ d, Tri (f d) R) → Tri (M.bind (M.nox (M__law_any [.list [encB kn, .none, .list [.int 0]]])) f) R := fun hf =>
    (t_any (Q := fun _ => True) (by simp) (by simp) fun _ _ => trivial).noxB fun d _ => hf d
  by_cases hbl : ∃ l, bent = .list l
  · obtain ⟨l, rfl⟩ := hbl
    obtain ⟨h1, h2⟩ := hb.2 l rfl
    rw [m_first_bad h2 hh.sb (by omega)]
    cases hfb : fb ps h l with
    | none =>
      have hr3 := fb_rowsI hfb
      obtain ⟨r3, er3, hrl3⟩ := m_spread (rows := l) (kn := kn) hr3 (by omega)
      have et3 := told_goes hh hp h1 h2 hfb hkr hks
      rw [er3, M.pur_pure] at et3
      have es3 := same_self_4 (d := encB r3) (pl_encB (by omega))
      (try simp only [mCons, mB, mBB, mBL, mSeq, mBin, mBinL, mCmp, mChain, mOfB, mOfL, mTo, mIsI, mIsI2, mNot, mAnd, mOr, mIf, mIfx, mIfj, mRet, mRetL, mDo, mUnp, mSl, mSlL, mEnd, mApp, mExt, mRem, mStore, mRaise1, mPar, mParLL, mRng1, mRng2, mTRng, mLRng, mIxT, mStoreT, mDict1, mApp2, mPut2, mAppPop, M.bind_assoc, M.pure_bind, M.opt_some, M.raise_bind, callP_bind, callL_bind, callS_bind, callSL_bind, mForB_bind, mCompB_bind, mCompBL_bind, callP_0, callP_1, callP_2, callP_3, callP_4, callP_5, callP_6, callL_0, callL_1, callL_2, callL_3, callL_4, callL_5, callL_6, callS_0, callS_1, callS_2, callS_3, callS_4, callS_5, callS_6, callSL_0, callSL_1, callSL_2, callSL_3, callSL_4, M.pur_pure, M.pur_raise, M.nox_pure, retD_bind, retD_ret, retD_nx, retD_raise, retLst_bind, retLst_retL, retLst_raise, exits_bind, exits_ret, exits_retL, exits_brk, exits_cnt, exits_raise, andThen_bind, andThen_nx, andThen_ret, andThen_retL, andThen_brk, andThen_cnt, andThen_raise, bnd2, bnd3, bnd4, bndL2, if_true, if_false, Bool.false_eq_true, Bool.not_true, Bool.not_false, reduceIte, dAdd_int, dSub_int, dCmp_int, dEq_int, dNe_int, dLen_list, dLen_tup, dInt_int, dItems_list, dItems_tup, dListOf_list, dListOf_tup, dTuple_list, dTuple_tup, dLst_0, dTup_0, dLst_1, dTup_1, dLst_2, dTup_2, dLst_3, dTup_3, dLst_4, dTup_4, dLst_5, dTup_5, dLst_6, dTup_6, dLst_7, dTup_7, dLst_8, dTup_8, dLst_9, dTup_9, dLst_10, dTup_10, dLst_11, dTup_11, dLst_12, dTup_12, dIsN, dNeg_int, isI, dInt1, optD, er3, et3, es3])
      exact .pure ⟨_, rfl, rfl⟩
    | some i =>
      (try simp only [mCons, mB, mBB, mBL, mSeq, mBin, mBinL, mCmp, mChain, mOfB, mOfL, mTo, mIsI, mIsI2, mNot, mAnd, mOr, mIf, mIfx, mIfj, mRet, mRetL, mDo, mUnp, mSl, mSlL, mEnd, mApp, mExt, mRem, mStore, mRaise1, mPar, mParLL, mRng1, mRng2, mTRng, mLRng, mIxT, mStoreT, mDict1, mApp2, mPut2, mAppPop, M.bind_assoc, M.pure_bind, M.opt_some, M.raise_bind, callP_bind, callL_bind, callS_bind, callSL_bind, mForB_bind, mCompB_bind, mCompBL_bind, callP_0, callP_1, callP_2, callP_3, callP_4, callP_5, callP_6, callL_0, callL_1, callL_2, callL_3, callL_4, callL_5, callL_6, callS_0, callS_1, callS_2, callS_3, callS_4, callS_5, callS_6, callSL_0, callSL_1, callSL_2, callSL_3, callSL_4, M.pur_pure, M.pur_raise, M.nox_pure, retD_bind, retD_ret, retD_nx, retD_raise, retLst_bind, retLst_retL, retLst_raise, exits_bind, exits_ret, exits_retL, exits_brk, exits_cnt, exits_raise, andThen_bind, andThen_nx, andThen_ret, andThen_retL, andThen_brk, andThen_cnt, andThen_raise, bnd2, bnd3, bnd4, bndL2, if_true, if_false, Bool.false_eq_true, Bool.not_true, Bool.not_false, reduceIte, dAdd_int, dSub_int, dCmp_int, dEq_int, dNe_int, dLen_list, dLen_tup, dInt_int, dItems_list, dItems_tup, dListOf_list, dListOf_tup, dTuple_list, dTuple_tup, dLst_0, dTup_0, dLst_1, dTup_1, dLst_2, dTup_2, dLst_3, dTup_3, dLst_4, dTup_4, dLst_5, dTup_5, dLst_6, dTup_6, dLst_7, dTup_7, dLst_8, dTup_8, dLst_9, dTup_9, dLst_10, dTup_10, dLst_11, dTup_11, dLst_12, dTup_12, dIsN, dNeg_int, isI, dInt1, optD])
      refine anyOdd fun odd => ?_
      (try simp only [mCons, mB, mBB, mBL, mSeq, mBin, mBinL, mCmp, mChain, mOfB, mOfL, mTo, mIsI, mIsI2, mNot, mAnd, mOr, mIf, mIfx, mIfj, mRet, mRetL, mDo, mUnp, mSl, mSlL, mEnd, mApp, mExt, mRem, mStore, mRaise1, mPar, mParLL, mRng1, mRng2, mTRng, mLRng, mIxT, mStoreT, mDict1, mApp2, mPut2, mAppPop, M.bind_assoc, M.pure_bind, M.opt_some, M.raise_bind, callP_bind, callL_bind, callS_bind, callSL_bind, mForB_bind, mCompB_bind, mCompBL_bind, callP_0, callP_1, callP_2, callP_3, callP_4, callP_5, callP_6, callL_0, callL_1, callL_2, callL_3, callL_4, callL_5, callL_6, callS_0, callS_1, callS_2, callS_3, callS_4, callS_5, callS_6, callSL_0, callSL_1, callSL_2, callSL_3, callSL_4, M.pur_pure, M.pur_raise, M.nox_pure, retD_bind, retD_ret, retD_nx, retD_raise, retLst_bind, retLst_retL, retLst_raise, exits_bind, exits_ret, exits_retL, exits_brk, exits_cnt, exits_raise, andThen_bind, andThen_nx, andThen_ret, andThen_retL, andThen_brk, andThen_cnt, andThen_raise, bnd2, bnd3, bnd4, bndL2, if_true, if_false, Bool.false_eq_true, Bool.not_true, Bool.not_false, reduceIte, dAdd_int, dSub_int, dCmp_int, dEq_int, dNe_int, dLen_list, dLen_tup, dInt_int, dItems_list, dItems_tup, dListOf_list, dListOf_tup, dTuple_list, dTuple_tup, dLst_0, dTup_0, dLst_1, dTup_1, dLst_2, dTup_2, dLst_3, dTup_3, dLst_4, dTup_4, dLst_5, dTup_5, dLst_6, dTup_6, dLst_7, dTup_7, dLst_8, dTup_8, dLst_9, dTup_9, dLst_10, dTup_10, dLst_11, dTup_11, dLst_12, dTup_12, dIsN, dNeg_int, isI, dInt1, told_bad hh hp h1 h2 hfb, said_rows, same_self_4 (d := .tuple [.str "refused", .str "rows", .int (i : Nat)]) (pl_refused _)])
      exact .pure ⟨_, rfl, rfl⟩
  · have hn := not_list hbl
    (try simp only [mCons, mB, mBB, mBL, mSeq, mBin, mBinL, mCmp, mChain, mOfB, mOfL, mTo, mIsI, mIsI2, mNot, mAnd, mOr, mIf, mIfx, mIfj, mRet, mRetL, mDo, mUnp, mSl, mSlL, mEnd, mApp, mExt, mRem, mStore, mRaise1, mPar, mParLL, mRng1, mRng2, mTRng, mLRng, mIxT, mStoreT, mDict1, mApp2, mPut2, mAppPop, M.bind_assoc, M.pure_bind, M.opt_some, M.raise_bind, callP_bind, callL_bind, callS_bind, callSL_bind, mForB_bind, mCompB_bind, mCompBL_bind, callP_0, callP_1, callP_2, callP_3, callP_4, callP_5, callP_6, callL_0, callL_1, callL_2, callL_3, callL_4, callL_5, callL_6, callS_0, callS_1, callS_2, callS_3, callS_4, callS_5, callS_6, callSL_0, callSL_1, callSL_2, callSL_3, callSL_4, M.pur_pure, M.pur_raise, M.nox_pure, retD_bind, retD_ret, retD_nx, retD_raise, retLst_bind, retLst_retL, retLst_raise, exits_bind, exits_ret, exits_retL, exits_brk, exits_cnt, exits_raise, andThen_bind, andThen_nx, andThen_ret, andThen_retL, andThen_brk, andThen_cnt, andThen_raise, bnd2, bnd3, bnd4, bndL2, if_true, if_false, Bool.false_eq_true, Bool.not_true, Bool.not_false, reduceIte, dAdd_int, dSub_int, dCmp_int, dEq_int, dNe_int, dLen_list, dLen_tup, dInt_int, dItems_list, dItems_tup, dListOf_list, dListOf_tup, dTuple_list, dTuple_tup, dLst_0, dTup_0, dLst_1, dTup_1, dLst_2, dTup_2, dLst_3, dTup_3, dLst_4, dTup_4, dLst_5, dTup_5, dLst_6, dTup_6, dLst_7, dTup_7, dLst_8, dTup_8, dLst_9, dTup_9, dLst_10, dTup_10, dLst_11, dTup_11, dLst_12, dTup_12, dIsN, dNeg_int, isI, dInt1, m_first_bad_no hn])
    refine anyOdd fun odd => ?_
    (try simp only [mCons, mB, mBB, mBL, mSeq, mBin, mBinL, mCmp, mChain, mOfB, mOfL, mTo, mIsI, mIsI2, mNot, mAnd, mOr, mIf, mIfx, mIfj, mRet, mRetL, mDo, mUnp, mSl, mSlL, mEnd, mApp, mExt, mRem, mStore, mRaise1, mPar, mParLL, mRng1, mRng2, mTRng, mLRng, mIxT, mStoreT, mDict1, mApp2, mPut2, mAppPop, M.bind_assoc, M.pure_bind, M.opt_some, M.raise_bind, callP_bind, callL_bind, callS_bind, callSL_bind, mForB_bind, mCompB_bind, mCompBL_bind, callP_0, callP_1, callP_2, callP_3, callP_4, callP_5, callP_6, callL_0, callL_1, callL_2, callL_3, callL_4, callL_5, callL_6, callS_0, callS_1, callS_2, callS_3, callS_4, callS_5, callS_6, callSL_0, callSL_1, callSL_2, callSL_3, callSL_4, M.pur_pure, M.pur_raise, M.nox_pure, retD_bind, retD_ret, retD_nx, retD_raise, retLst_bind, retLst_retL, retLst_raise, exits_bind, exits_ret, exits_retL, exits_brk, exits_cnt, exits_raise, andThen_bind, andThen_nx, andThen_ret, andThen_retL, andThen_brk, andThen_cnt, andThen_raise, bnd2, bnd3, bnd4, bndL2, if_true, if_false, Bool.false_eq_true, Bool.not_true, Bool.not_false, reduceIte, dAdd_int, dSub_int, dCmp_int, dEq_int, dNe_int, dLen_list, dLen_tup, dInt_int, dItems_list, dItems_tup, dListOf_list, dListOf_tup, dTuple_list, dTuple_tup, dLst_0, dTup_0, dLst_1, dTup_1, dLst_2, dTup_2, dLst_3, dTup_3, dLst_4, dTup_4, dLst_5, dTup_5, dLst_6, dTup_6, dLst_7, dTup_7, dLst_8, dTup_8, dLst_9, dTup_9, dLst_10, dTup_10, dLst_11, dTup_11, dLst_12, dTup_12, dIsN, dNeg_int, isI, dInt1, told_no hh hp hn, said_rows, same_self_4 (d := .tuple [.str "refused", .str "rows", .int (-1)]) (pl_refused _)])
    exact .pure ⟨_, rfl, rfl⟩
theorem cutL_neg1 {α : Type} (xs : List α) : cutL xs none (some (-1)) = xs.dropLast := by
  unfold cutL
  have e : HT.sIx xs.length xs.length (some (-1)) = xs.length - 1 := by
    unfold HT.sIx
    simp
    omega
  rw [e, HT.sIx_none, List.drop_zero, Nat.sub_zero, List.dropLast_eq_take]
theorem hallB_last {h : List (List Int)} {x : D} (h1 : 1 ≤ h.length) (hx : bookB h.length x = false) : hallB (.tuple ((h.map encB).dropLast ++ [x])) = false := by
  cases e : hallB (.tuple ((h.map encB).dropLast ++ [x])) with
  | false => rfl
  | true =>
    simp only [hallB, Bool.and_eq_true, List.all_eq_true, decide_eq_true_eq] at e
    have := e.2 x (by simp)
    have el : ((h.map encB).dropLast ++ [x]).length = h.length := by simp; omega
    rw [el, hx] at this
    cases this
theorem dMul_0_17 : dMul (.tuple [.int 0]) (.int 17) = some (.tuple (List.replicate 17 (.int 0))) := by
  simp [dMul]
theorem sm2_last {h : List (List Int)} {x : D} (hh : HallT h) (hx : Sm x) : Sm2 (.tuple ((h.map encB).dropLast ++ [x])) := fun l e => by
  cases e
  have := hh.2.1
  refine ⟨by simp; omega, fun y hy => ?_⟩
  rcases List.mem_append.mp hy with z | z
  · exact (sm2_encH hh _ rfl).2 y ((List.dropLast_sublist _).mem z)
  · simp at z
    subst z
    exact hx
theorem rise_tup {n : Nat} {l : List D} (h : ∀ ps : List Int, l = ps.map .int → ¬ PlayT n ps) : riseB n (.tuple l) = false := riseB_false fun ps e => by
  cases e
  exact h ps rfl
theorem pl_words : pl 4 (.list [.tuple [.str "refused", .str "knowing"], .tuple [.str "refused", .str "players"], .tuple [.str "refused", .str "hall"]]) = true := by decide +kernel
theorem map_int_eq {a b : List Int} (h : a.map PyData.int = b.map PyData.int) : a = b := by
  have := congrArg intsOf h
  simpa using this
theorem t_refused_right {h : List (List Int)} {ps : List Int} {rows : List D} (hh : HallT h) (hp : PlayT h.length ps) (hf : fb ps h rows = none) (hl : rows.length ≤ 1000) :
    Tri (M__law_refused_right [encH h, encB ps, .list rows]) (· = .bool true) := by
  show Tri (retD (B__law_refused_right (encH h) (encB ps) (.list rows))) _
  refine .retD ?_
  unfold B__law_refused_right
  have hr := fb_rowsI hf
  have hpl := hp.len
  have hh1 := hh.1
  have hhl := hh.2.1
  have lp : dListOf [encB ps] = some (ps.map .int) := rfl
  have lh : dListOf [encH h] = some (h.map encB) := rfl
  have ap1 : ∀ x : D, dAdd (encB ps) (.tuple [x]) = some (.tuple (ps.map .int ++ [x])) := fun x => dAdd_tup (by simp; omega)
  have ap2 : ∀ x : D, dAdd (.tuple [x]) (encB ps) = some (.tuple (x :: ps.map .int)) := fun x => dAdd_tup (by simp; omega)
  have sl : dSlice (encH h) none (some (-1)) = some (.tuple (h.map encB).dropLast) := by
    show some (PyData.tuple (cutL _ _ _)) = _
    rw [cutL_neg1]
  have ap3 : ∀ x : D, dAdd (.tuple (h.map encB).dropLast) (.tuple [x]) = some (.tuple ((h.map encB).dropLast ++ [x])) := fun x => dAdd_tup (by simp; omega)
  (try simp only [mCons, mB, mBB, mBL, mSeq, mBin, mBinL, mCmp, mChain, mOfB, mOfL, mTo, mIsI, mIsI2, mNot, mAnd, mOr, mIf, mIfx, mIfj, mRet, mRetL, mDo, mUnp, mSl, mSlL, mEnd, mApp, mExt, mRem, mStore, mRaise1, mPar, mParLL, mRng1, mRng2, mTRng, mLRng, mIxT, mStoreT, mDict1, mApp2, mPut2, mAppPop, M.bind_assoc, M.pure_bind, M.opt_some, M.raise_bind, callP_bind, callL_bind, callS_bind, callSL_bind, mForB_bind, mCompB_bind, mCompBL_bind, callP_0, callP_1, callP_2, callP_3, callP_4, callP_5, callP_6, callL_0, callL_1, callL_2, callL_3, callL_4, callL_5, callL_6, callS_0, callS_1, callS_2, callS_3, callS_4, callS_5, callS_6, callSL_0, callSL_1, callSL_2, callSL_3, callSL_4, M.pur_pure, M.pur_raise, M.nox_pure, retD_bind, retD_ret, retD_nx, retD_raise, retLst_bind, retLst_retL, retLst_raise, exits_bind, exits_ret, exits_retL, exits_brk, exits_cnt, exits_raise, andThen_bind, andThen_nx, andThen_ret, andThen_retL, andThen_brk, andThen_cnt, andThen_raise, bnd2, bnd3, bnd4, bndL2, if_true, if_false, Bool.false_eq_true, Bool.not_true, Bool.not_false, reduceIte, dAdd_int, dSub_int, dCmp_int, dEq_int, dNe_int, dLen_list, dLen_tup, dInt_int, dItems_list, dItems_tup, dListOf_list, dListOf_tup, dTuple_list, dTuple_tup, dLst_0, dTup_0, dLst_1, dTup_1, dLst_2, dTup_2, dLst_3, dTup_3, dLst_4, dTup_4, dLst_5, dTup_5, dLst_6, dTup_6, dLst_7, dTup_7, dLst_8, dTup_8, dLst_9, dTup_9, dLst_10, dTup_10, dLst_11, dTup_11, dLst_12, dTup_12, dIsN, dNeg_int, isI, dInt1, dLen_encH, lp, lh, ap1, ap2, sl, ap3, dMul_0_17])
  refine (t_any (Q := fun x => riseB h.length x = false ∧ Sm x) (by simp) (by simp) fun x hx => ?_).noxB fun odd ⟨ho, hos⟩ => ?_
  · simp only [List.mem_cons, List.not_mem_nil, or_false] at hx
    rcases hx with rfl | rfl | rfl | rfl | rfl | rfl | rfl | rfl | rfl | rfl | rfl | rfl
    · exact ⟨rise_tup fun qs e q => by have e := map_int_eq (a := [(h.length : Int)]) e; subst e; have := q.2 (h.length : Int) (by simp); omega, (pd_tup (by simp)).1⟩
    · exact ⟨rise_tup fun qs e q => by have e := map_int_eq (a := [-1]) e; subst e; have := q.2 (-1) (by simp); omega, (pd_tup (by simp)).1⟩
    · exact ⟨rfl, (pd_list (by simp) (by simpa using (pd_int 0).1)).1⟩
    · exact ⟨rise_tup fun qs e q => by have e := map_int_eq (a := [0, 0]) e; subst e; have := q.1; simp at this, (pd_tup (by simp)).1⟩
    · exact ⟨rise_tup fun qs e q => (by cases qs <;> cases e), (pd_tup (by simp)).1⟩
    · exact ⟨rfl, pd_none.1⟩
    · exact ⟨rfl, (pd_int _).1⟩
    · exact ⟨rise_tup fun qs e q => (by cases qs <;> cases e), (pd_tup (by simp)).1⟩
    · exact ⟨rise_tup fun qs e q => (by cases qs <;> cases e), (pd_tup (by simp)).1⟩
    · exact ⟨rfl, (pd_dict _).1⟩
    · exact ⟨rise_tup fun qs e q => by have e := map_int_eq (a := [(h.length : Int) - 1, 0]) e; subst e; have := q.1; simp at this; omega, (pd_tup (by simp)).1⟩
    · exact ⟨rise_tup fun qs e q => (by cases qs <;> cases e), (pd_tup (by simp)).1⟩
  · refine (t_any (Q := fun x => riseB h.length x = false ∧ Sm x) (by simp) (by simp) fun x hx => ?_).noxB fun bad ⟨hb, hbs⟩ => ?_
    · simp only [List.mem_cons, List.not_mem_nil, or_false] at hx
      rcases hx with rfl | rfl | rfl | rfl | rfl | rfl | rfl
      · exact ⟨rfl, fun _ e => by cases e⟩
      · exact ⟨rise_tup fun qs e q => by have e := map_int_eq (a := ps ++ [(h.length : Int)]) (by simpa using e); subst e; have := q.2 (h.length : Int) (by simp); omega, (pd_tup (by simp; omega)).1⟩
      · exact ⟨rise_tup fun qs e q => by have e := map_int_eq (a := [0, 0]) e; subst e; have := q.1; simp at this, (pd_tup (by simp)).1⟩
      · exact ⟨rfl, pd_none.1⟩
      · exact ⟨rise_tup fun qs e q => (by cases qs <;> cases e), (pd_tup (by simp)).1⟩
      · exact ⟨rise_tup fun qs e q => by have e := map_int_eq (a := -1 :: ps) (by simpa using e); subst e; have := q.2 (-1) (by simp); omega, (pd_tup (by simp; omega)).1⟩
      · exact ⟨rfl, (pd_int _).1⟩
    · refine (t_any (Q := fun x => hallB x = false ∧ Sm2 x) (by simp) (by simp) fun x hx => ?_).noxB fun none' ⟨hn, hns⟩ => ?_
      · simp only [List.mem_cons, List.not_mem_nil, or_false] at hx
        rcases hx with rfl | rfl | rfl | rfl | rfl | rfl
        · exact ⟨rfl, fun _ e => by cases e⟩
        · refine ⟨hallB_last hh1 ?_, sm2_last hh (pd_tup (by simp)).1⟩
          cases e : bookB h.length (.tuple [.int (h.length : Nat)]) with
          | false => rfl
          | true =>
            obtain ⟨b, e1, e2⟩ := bookB_iff.mp e
            have e1 : [PyData.int (h.length : Nat)] = b.map .int := by simpa [encB] using e1
            have e1 := map_int_eq (a := [(h.length : Int)]) e1
            subst e1
            have := e2.2.2 (h.length : Int) (by simp)
            omega
        · exact ⟨rfl, fun _ e => by cases e⟩
        · exact ⟨hallB_last hh1 rfl, sm2_last hh (pd_list (by simp) (by simp)).1⟩
        · refine ⟨hallB_last hh1 ?_, sm2_last hh (pd_tup (by simp)).1⟩
          simp [bookB]
        · exact ⟨rfl, fun _ e => by cases e; simp⟩
      · have w0 : ∀ (a b : D), dApp [a] b = some [a, b] := fun _ _ => rfl
        have w1 : ∀ (a b c : D), dApp [a, b] c = some [a, b, c] := fun _ _ _ => rfl
        (try simp only [mCons, mB, mBB, mBL, mSeq, mBin, mBinL, mCmp, mChain, mOfB, mOfL, mTo, mIsI, mIsI2, mNot, mAnd, mOr, mIf, mIfx, mIfj, mRet, mRetL, mDo, mUnp, mSl, mSlL, mEnd, mApp, mExt, mRem, mStore, mRaise1, mPar, mParLL, mRng1, mRng2, mTRng, mLRng, mIxT, mStoreT, mDict1, mApp2, mPut2, mAppPop, M.bind_assoc, M.pure_bind, M.opt_some, M.raise_bind, callP_bind, callL_bind, callS_bind, callSL_bind, mForB_bind, mCompB_bind, mCompBL_bind, callP_0, callP_1, callP_2, callP_3, callP_4, callP_5, callP_6, callL_0, callL_1, callL_2, callL_3, callL_4, callL_5, callL_6, callS_0, callS_1, callS_2, callS_3, callS_4, callS_5, callS_6, callSL_0, callSL_1, callSL_2, callSL_3, callSL_4, M.pur_pure, M.pur_raise, M.nox_pure, retD_bind, retD_ret, retD_nx, retD_raise, retLst_bind, retLst_retL, retLst_raise, exits_bind, exits_ret, exits_retL, exits_brk, exits_cnt, exits_raise, andThen_bind, andThen_nx, andThen_ret, andThen_retL, andThen_brk, andThen_cnt, andThen_raise, bnd2, bnd3, bnd4, bndL2, if_true, if_false, Bool.false_eq_true, Bool.not_true, Bool.not_false, reduceIte, dAdd_int, dSub_int, dCmp_int, dEq_int, dNe_int, dLen_list, dLen_tup, dInt_int, dItems_list, dItems_tup, dListOf_list, dListOf_tup, dTuple_list, dTuple_tup, dLst_0, dTup_0, dLst_1, dTup_1, dLst_2, dTup_2, dLst_3, dTup_3, dLst_4, dTup_4, dLst_5, dTup_5, dLst_6, dTup_6, dLst_7, dTup_7, dLst_8, dTup_8, dLst_9, dTup_9, dLst_10, dTup_10, dLst_11, dTup_11, dLst_12, dTup_12, dIsN, dNeg_int, isI, dInt1, told_unknown hh hp (by omega : rows.length ≤ 900000) (rows_sm hr) hf ho hos, told_players hh hb hbs, told_hall hn hns hbs, said_hall, said_players, said_knowing, w0, w1, dEq_self pl_words (by decide)])
        exact .pure ⟨_, rfl, rfl⟩
end Law
end
section
set_option Elab.async false
set_option linter.all false
set_option maxRecDepth 100000
set_option maxHeartbeats 400000
namespace Law
open PySem PySem.Spec PyProof.Rows L2 Sim
def kH : List (List Int) := [[1], [2], [3], [0, 4], [0]]
def kP : List Int := [0, 1, 2, 3]
def kR : List D := [.tuple [.int 1, .int 2, .int 3], .tuple [.int 0, .int 1, .int 3]]
theorem kH_T : HallT kH := ⟨by decide, by decide, fun b hb => by
  simp only [kH, List.mem_cons, List.not_mem_nil, or_false] at hb
  rcases hb with rfl | rfl | rfl | rfl | rfl <;> exact ⟨by decide, by decide, by decide⟩⟩
theorem kP_T : PlayT kH.length kP := ⟨by decide, by decide⟩
theorem kR_fb : fb kP kH kR = none := by
  have s1 : putT (bk kH 1) 2 3 = [3] := (srt_unique (m := [3]) (List.Perm.refl _) (by simp)).symm
  have s2 : putT (bk kH 2) 3 1 = [1] := (srt_unique (m := [1]) (List.Perm.refl _) (by simp)).symm
  have g1 : goesD kH kP (.tuple [.int 1, .int 2, .int 3]) = true := by decide
  have e1 : step kH (.tuple [.int 1, .int 2, .int 3]) = [[1], [3], [1], [0, 4], [0]] := by
    show doneT kH 1 2 3 = _
    unfold doneT
    rw [s1, s2]
    rfl
  have g2 : goesD [[1], [3], [1], [0, 4], [0]] kP (.tuple [.int 0, .int 1, .int 3]) = true := by decide
  unfold kR fb
  rw [if_pos g1, e1]
  unfold fb
  rw [if_pos g2]
  rfl
theorem known_case (kn due : List Int) (hk : PlayT kH.length kn) (hd : due.Pairwise (· ≤ ·)) (hp : due.Perm (kR.foldl spT kn)) : M_told [encH kH, encB kP, .list kR, encB kn] = M.pure (encB due) := by
  have h1 := hk.len
  have h2 : kH.length = 5 := rfl
  rw [told_goes kH_T kP_T (by decide) (rows_sm (fb_rowsI kR_fb)) kR_fb (riseB_iff.mpr ⟨kn, rfl, hk⟩) (sm_encB (by omega)), m_spreadX (fb_rowsI kR_fb) (by have : kR.length = 2 := rfl; omega), ← srt_unique hp hd]
  rfl
theorem m_known_right : M__law_known_right [] = M.pure (.bool true) := by
  show retD B__law_known_right = _
  unfold B__law_known_right
  have c1 := known_case [0, 4] [0, 1, 4] ⟨by decide, by decide⟩ (by decide) (by decide)
  have c2 := known_case [2] [0, 1, 2] ⟨by decide, by decide⟩ (by decide) (by decide)
  have c3 := known_case [] [] ⟨by decide, by decide⟩ (by decide) (by decide)
  have c4 := known_case [3] [3] ⟨by decide, by decide⟩ (by decide) (by decide)
  have c5 := known_case [0, 1, 2, 3, 4] [0, 1, 2, 3, 4] ⟨by decide, by decide⟩ (by decide) (by decide)
  (try simp only [mCons, mB, mBB, mBL, mSeq, mBin, mBinL, mCmp, mChain, mOfB, mOfL, mTo, mIsI, mIsI2, mNot, mAnd, mOr, mIf, mIfx, mIfj, mRet, mRetL, mDo, mUnp, mSl, mSlL, mEnd, mApp, mExt, mRem, mStore, mRaise1, mPar, mParLL, mRng1, mRng2, mTRng, mLRng, mIxT, mStoreT, mDict1, mApp2, mPut2, mAppPop, M.bind_assoc, M.pure_bind, M.opt_some, M.raise_bind, callP_bind, callL_bind, callS_bind, callSL_bind, mForB_bind, mCompB_bind, mCompBL_bind, callP_0, callP_1, callP_2, callP_3, callP_4, callP_5, callP_6, callL_0, callL_1, callL_2, callL_3, callL_4, callL_5, callL_6, callS_0, callS_1, callS_2, callS_3, callS_4, callS_5, callS_6, callSL_0, callSL_1, callSL_2, callSL_3, callSL_4, M.pur_pure, M.pur_raise, M.nox_pure, retD_bind, retD_ret, retD_nx, retD_raise, retLst_bind, retLst_retL, retLst_raise, exits_bind, exits_ret, exits_retL, exits_brk, exits_cnt, exits_raise, andThen_bind, andThen_nx, andThen_ret, andThen_retL, andThen_brk, andThen_cnt, andThen_raise, bnd2, bnd3, bnd4, bndL2, if_true, if_false, Bool.false_eq_true, Bool.not_true, Bool.not_false, reduceIte, dAdd_int, dSub_int, dCmp_int, dEq_int, dNe_int, dLen_list, dLen_tup, dInt_int, dItems_list, dItems_tup, dListOf_list, dListOf_tup, dTuple_list, dTuple_tup, dLst_0, dTup_0, dLst_1, dTup_1, dLst_2, dTup_2, dLst_3, dTup_3, dLst_4, dTup_4, dLst_5, dTup_5, dLst_6, dTup_6, dLst_7, dTup_7, dLst_8, dTup_8, dLst_9, dTup_9, dLst_10, dTup_10, dLst_11, dTup_11, dLst_12, dTup_12, dIsN, dNeg_int, isI, dInt1])
  let due : D → D := fun d => if d.eqv (encB [0, 4]) then encB [0, 1, 4] else if d.eqv (encB [2]) then encB [0, 1, 2] else d
  rw [mCompB_map (g := due) (by simp) fun d hd => ?_]
  · have e : ([PyData.tuple [.int 0, .int 4], .tuple [.int 2], .tuple [], .tuple [.int 3], .tuple [.int 0, .int 1, .int 2, .int 3, .int 4]].map due) = [.tuple [.int 0, .int 1, .int 4], .tuple [.int 0, .int 1, .int 2], .tuple [], .tuple [.int 3], .tuple [.int 0, .int 1, .int 2, .int 3, .int 4]] := by rfl
    rw [M.pure_bind, e, same_self_4 (by decide)]
    rfl
  · refine ⟨d, rfl, ?_⟩
    simp only [List.mem_cons, List.not_mem_nil, or_false] at hd
    rcases hd with rfl | rfl | rfl | rfl | rfl
    · exact congrArg M.pur c1
    · exact congrArg M.pur c2
    · exact congrArg M.pur c3
    · exact congrArg M.pur c4
    · exact congrArg M.pur c5
/-! ### the law -/
theorem hand_ok {ns : List Int} (h : ns.length ≤ 63) : ∃ ws s1, retLst (B__law_hand ns) [] = .ok (ws, s1) ∧ HandOk ws := by
  have e1 : (M.bind (mEnd (M.pure (.int 63))) fun h => M.pure (cutL (ns.map PyData.int) none h)) = M.pure ((ns.map PyData.int).take 63) := by
    (try simp only [mCons, mB, mBB, mBL, mSeq, mBin, mBinL, mCmp, mChain, mOfB, mOfL, mTo, mIsI, mIsI2, mNot, mAnd, mOr, mIf, mIfx, mIfj, mRet, mRetL, mDo, mUnp, mSl, mSlL, mEnd, mApp, mExt, mRem, mStore, mRaise1, mPar, mParLL, mRng1, mRng2, mTRng, mLRng, mIxT, mStoreT, mDict1, mApp2, mPut2, mAppPop, M.bind_assoc, M.pure_bind, M.opt_some, M.raise_bind, callP_bind, callL_bind, callS_bind, callSL_bind, mForB_bind, mCompB_bind, mCompBL_bind, callP_0, callP_1, callP_2, callP_3, callP_4, callP_5, callP_6, callL_0, callL_1, callL_2, callL_3, callL_4, callL_5, callL_6, callS_0, callS_1, callS_2, callS_3, callS_4, callS_5, callS_6, callSL_0, callSL_1, callSL_2, callSL_3, callSL_4, M.pur_pure, M.pur_raise, M.nox_pure, retD_bind, retD_ret, retD_nx, retD_raise, retLst_bind, retLst_retL, retLst_raise, exits_bind, exits_ret, exits_retL, exits_brk, exits_cnt, exits_raise, andThen_bind, andThen_nx, andThen_ret, andThen_retL, andThen_brk, andThen_cnt, andThen_raise, bnd2, bnd3, bnd4, bndL2, if_true, if_false, Bool.false_eq_true, Bool.not_true, Bool.not_false, reduceIte, dAdd_int, dSub_int, dCmp_int, dEq_int, dNe_int, dLen_list, dLen_tup, dInt_int, dItems_list, dItems_tup, dListOf_list, dListOf_tup, dTuple_list, dTuple_tup, dLst_0, dTup_0, dLst_1, dTup_1, dLst_2, dTup_2, dLst_3, dTup_3, dLst_4, dTup_4, dLst_5, dTup_5, dLst_6, dTup_6, dLst_7, dTup_7, dLst_8, dTup_8, dLst_9, dTup_9, dLst_10, dTup_10, dLst_11, dTup_11, dLst_12, dTup_12, dIsN, dNeg_int, isI, dInt1])
    rw [show (some (63 : Int)) = some ((63 : Nat) : Int) from rfl, cutL_take]
  have e2 : mCompB (M.pure ((ns.map PyData.int).take 63)) some yes (fun xcell => (mB dAbs (mCons (mB dInt (mCons (M.pure xcell) (M.pure []))) (M.pure [])))) = M.pure (((ns.map PyData.int).take 63).map fun d => .int (if unI d < 0 then -unI d else unI d)) :=
    mCompB_map (g := fun d => .int (if unI d < 0 then -unI d else unI d)) (by rw [List.length_take]; omega) fun d hd => by
      obtain ⟨i, _, rfl⟩ := List.mem_map.mp (List.mem_of_mem_take hd)
      exact ⟨_, rfl, rfl⟩
  have e : retLst (B__law_hand ns) = M.pure [.list (((ns.map PyData.int).take 63).map fun d => .int (if unI d < 0 then -unI d else unI d)), .int 0, .int 0, .int (211 + 5 * ((((ns.map PyData.int).take 63).map fun d => PyData.int (if unI d < 0 then -unI d else unI d)).length : Nat)), .int 0] := by
    unfold B__law_hand
    rw [e1]
    have z : mSeq (mOfL (M.pure ((ns.map PyData.int).take 63))) = M.pure ((ns.map PyData.int).take 63) := rfl
    rw [z, e2]
    (try simp only [mCons, mB, mBB, mBL, mSeq, mBin, mBinL, mCmp, mChain, mOfB, mOfL, mTo, mIsI, mIsI2, mNot, mAnd, mOr, mIf, mIfx, mIfj, mRet, mRetL, mDo, mUnp, mSl, mSlL, mEnd, mApp, mExt, mRem, mStore, mRaise1, mPar, mParLL, mRng1, mRng2, mTRng, mLRng, mIxT, mStoreT, mDict1, mApp2, mPut2, mAppPop, M.bind_assoc, M.pure_bind, M.opt_some, M.raise_bind, callP_bind, callL_bind, callS_bind, callSL_bind, mForB_bind, mCompB_bind, mCompBL_bind, callP_0, callP_1, callP_2, callP_3, callP_4, callP_5, callP_6, callL_0, callL_1, callL_2, callL_3, callL_4, callL_5, callL_6, callS_0, callS_1, callS_2, callS_3, callS_4, callS_5, callS_6, callSL_0, callSL_1, callSL_2, callSL_3, callSL_4, M.pur_pure, M.pur_raise, M.nox_pure, retD_bind, retD_ret, retD_nx, retD_raise, retLst_bind, retLst_retL, retLst_raise, exits_bind, exits_ret, exits_retL, exits_brk, exits_cnt, exits_raise, andThen_bind, andThen_nx, andThen_ret, andThen_retL, andThen_brk, andThen_cnt, andThen_raise, bnd2, bnd3, bnd4, bndL2, if_true, if_false, Bool.false_eq_true, Bool.not_true, Bool.not_false, reduceIte, dAdd_int, dSub_int, dCmp_int, dEq_int, dNe_int, dLen_list, dLen_tup, dInt_int, dItems_list, dItems_tup, dListOf_list, dListOf_tup, dTuple_list, dTuple_tup, dLst_0, dTup_0, dLst_1, dTup_1, dLst_2, dTup_2, dLst_3, dTup_3, dLst_4, dTup_4, dLst_5, dTup_5, dLst_6, dTup_6, dLst_7, dTup_7, dLst_8, dTup_8, dLst_9, dTup_9, dLst_10, dTup_10, dLst_11, dTup_11, dLst_12, dTup_12, dIsN, dNeg_int, isI, dInt1, mul_small' 5 _ (by decide)])
  rw [e]
  refine ⟨_, _, rfl, ⟨((ns.take 63).map fun i => if i < 0 then -i else i), 0, 0, (211 + 5 * ((((ns.map PyData.int).take 63).map fun d => PyData.int (if unI d < 0 then -unI d else unI d)).length : Nat) : Int), 0, ?_, fun c hc => ?_, by decide, by decide, ?_⟩⟩
  · rw [← List.map_take, List.map_map, List.map_map]
    rfl
  · obtain ⟨i, _, rfl⟩ := List.mem_map.mp hc
    split <;> omega
  · rw [List.length_map, List.length_take]
    omega
theorem ranges {n : Nat} (h : n ≤ 1000) : mLRng (mRng1 (M.pure (.int (n : Nat)))) = M.pure (rngD 0 n) := by
  (try simp only [mCons, mB, mBB, mBL, mSeq, mBin, mBinL, mCmp, mChain, mOfB, mOfL, mTo, mIsI, mIsI2, mNot, mAnd, mOr, mIf, mIfx, mIfj, mRet, mRetL, mDo, mUnp, mSl, mSlL, mEnd, mApp, mExt, mRem, mStore, mRaise1, mPar, mParLL, mRng1, mRng2, mTRng, mLRng, mIxT, mStoreT, mDict1, mApp2, mPut2, mAppPop, M.bind_assoc, M.pure_bind, M.opt_some, M.raise_bind, callP_bind, callL_bind, callS_bind, callSL_bind, mForB_bind, mCompB_bind, mCompBL_bind, callP_0, callP_1, callP_2, callP_3, callP_4, callP_5, callP_6, callL_0, callL_1, callL_2, callL_3, callL_4, callL_5, callL_6, callS_0, callS_1, callS_2, callS_3, callS_4, callS_5, callS_6, callSL_0, callSL_1, callSL_2, callSL_3, callSL_4, M.pur_pure, M.pur_raise, M.nox_pure, retD_bind, retD_ret, retD_nx, retD_raise, retLst_bind, retLst_retL, retLst_raise, exits_bind, exits_ret, exits_retL, exits_brk, exits_cnt, exits_raise, andThen_bind, andThen_nx, andThen_ret, andThen_retL, andThen_brk, andThen_cnt, andThen_raise, bnd2, bnd3, bnd4, bndL2, if_true, if_false, Bool.false_eq_true, Bool.not_true, Bool.not_false, reduceIte, dAdd_int, dSub_int, dCmp_int, dEq_int, dNe_int, dLen_list, dLen_tup, dInt_int, dItems_list, dItems_tup, dListOf_list, dListOf_tup, dTuple_list, dTuple_tup, dLst_0, dTup_0, dLst_1, dTup_1, dLst_2, dTup_2, dLst_3, dTup_3, dLst_4, dTup_4, dLst_5, dTup_5, dLst_6, dTup_6, dLst_7, dTup_7, dLst_8, dTup_8, dLst_9, dTup_9, dLst_10, dTup_10, dLst_11, dTup_11, dLst_12, dTup_12, dIsN, dNeg_int, isI, dInt1, rng1_ok (n := (n : Int)) (by omega), Int.toNat_natCast])
theorem t_law : Tri (retD B_law) (· = .bool true) := by
  refine .retD ?_
  unfold B_law
  (try simp only [mCons, mB, mBB, mBL, mSeq, mBin, mBinL, mCmp, mChain, mOfB, mOfL, mTo, mIsI, mIsI2, mNot, mAnd, mOr, mIf, mIfx, mIfj, mRet, mRetL, mDo, mUnp, mSl, mSlL, mEnd, mApp, mExt, mRem, mStore, mRaise1, mPar, mParLL, mRng1, mRng2, mTRng, mLRng, mIxT, mStoreT, mDict1, mApp2, mPut2, mAppPop, M.bind_assoc, M.pure_bind, M.opt_some, M.raise_bind, callP_bind, callL_bind, callS_bind, callSL_bind, mForB_bind, mCompB_bind, mCompBL_bind, callP_0, callP_1, callP_2, callP_3, callP_4, callP_5, callP_6, callL_0, callL_1, callL_2, callL_3, callL_4, callL_5, callL_6, callS_0, callS_1, callS_2, callS_3, callS_4, callS_5, callS_6, callSL_0, callSL_1, callSL_2, callSL_3, callSL_4, M.pur_pure, M.pur_raise, M.nox_pure, retD_bind, retD_ret, retD_nx, retD_raise, retLst_bind, retLst_retL, retLst_raise, exits_bind, exits_ret, exits_retL, exits_brk, exits_cnt, exits_raise, andThen_bind, andThen_nx, andThen_ret, andThen_retL, andThen_brk, andThen_cnt, andThen_raise, bnd2, bnd3, bnd4, bndL2, if_true, if_false, Bool.false_eq_true, Bool.not_true, Bool.not_false, reduceIte, dAdd_int, dSub_int, dCmp_int, dEq_int, dNe_int, dLen_list, dLen_tup, dInt_int, dItems_list, dItems_tup, dListOf_list, dListOf_tup, dTuple_list, dTuple_tup, dLst_0, dTup_0, dLst_1, dTup_1, dLst_2, dTup_2, dLst_3, dTup_3, dLst_4, dTup_4, dLst_5, dTup_5, dLst_6, dTup_6, dLst_7, dTup_7, dLst_8, dTup_8, dLst_9, dTup_9, dLst_10, dTup_10, dLst_11, dTup_11, dLst_12, dTup_12, dIsN, dNeg_int, isI, dInt1, m_known_right, dBool_bool, rng1_ok (n := 3) (by omega)])
  refine Tri.forB' (fun _ => True) trivial (fun d _ _ _ => ⟨d, rfl, ?_⟩) fun _ _ => .pure ⟨_, rfl, rfl⟩
  refine (t_any (Q := fun d => ∃ m : Int, d = .int m ∧ 1 ≤ m ∧ m ≤ 12) (by simp) (by simp) fun x hx => ?_).noxB fun d ⟨mp, e, p0, p1⟩ => ?_
  · simp only [List.mem_cons, List.not_mem_nil, or_false] at hx
    rcases hx with rfl | rfl | rfl <;> exact ⟨_, rfl, by decide, by decide⟩
  subst e
  refine (t_any (Q := fun d => ∃ m : Int, d = .int m ∧ 1 ≤ m ∧ m ≤ 16) (by simp) (by simp) fun x hx => ?_).noxB fun d ⟨mc, e, c0, c1⟩ => ?_
  · simp only [List.mem_cons, List.not_mem_nil, or_false] at hx
    rcases hx with rfl | rfl | rfl <;> exact ⟨_, rfl, by decide, by decide⟩
  subst e
  (try simp only [mCons, mB, mBB, mBL, mSeq, mBin, mBinL, mCmp, mChain, mOfB, mOfL, mTo, mIsI, mIsI2, mNot, mAnd, mOr, mIf, mIfx, mIfj, mRet, mRetL, mDo, mUnp, mSl, mSlL, mEnd, mApp, mExt, mRem, mStore, mRaise1, mPar, mParLL, mRng1, mRng2, mTRng, mLRng, mIxT, mStoreT, mDict1, mApp2, mPut2, mAppPop, M.bind_assoc, M.pure_bind, M.opt_some, M.raise_bind, callP_bind, callL_bind, callS_bind, callSL_bind, mForB_bind, mCompB_bind, mCompBL_bind, callP_0, callP_1, callP_2, callP_3, callP_4, callP_5, callP_6, callL_0, callL_1, callL_2, callL_3, callL_4, callL_5, callL_6, callS_0, callS_1, callS_2, callS_3, callS_4, callS_5, callS_6, callSL_0, callSL_1, callSL_2, callSL_3, callSL_4, M.pur_pure, M.pur_raise, M.nox_pure, retD_bind, retD_ret, retD_nx, retD_raise, retLst_bind, retLst_retL, retLst_raise, exits_bind, exits_ret, exits_retL, exits_brk, exits_cnt, exits_raise, andThen_bind, andThen_nx, andThen_ret, andThen_retL, andThen_brk, andThen_cnt, andThen_raise, bnd2, bnd3, bnd4, bndL2, if_true, if_false, Bool.false_eq_true, Bool.not_true, Bool.not_false, reduceIte, dAdd_int, dSub_int, dCmp_int, dEq_int, dNe_int, dLen_list, dLen_tup, dInt_int, dItems_list, dItems_tup, dListOf_list, dListOf_tup, dTuple_list, dTuple_tup, dLst_0, dTup_0, dLst_1, dTup_1, dLst_2, dTup_2, dLst_3, dTup_3, dLst_4, dTup_4, dLst_5, dTup_5, dLst_6, dTup_6, dLst_7, dTup_7, dLst_8, dTup_8, dLst_9, dTup_9, dLst_10, dTup_10, dLst_11, dTup_11, dLst_12, dTup_12, dIsN, dNeg_int, isI, dInt1])
  refine (t_hall p0 p1 c0 c1).noxB fun ds ⟨h, ps, e, hh, hp⟩ => ?_
  subst e
  (try simp only [mCons, mB, mBB, mBL, mSeq, mBin, mBinL, mCmp, mChain, mOfB, mOfL, mTo, mIsI, mIsI2, mNot, mAnd, mOr, mIf, mIfx, mIfj, mRet, mRetL, mDo, mUnp, mSl, mSlL, mEnd, mApp, mExt, mRem, mStore, mRaise1, mPar, mParLL, mRng1, mRng2, mTRng, mLRng, mIxT, mStoreT, mDict1, mApp2, mPut2, mAppPop, M.bind_assoc, M.pure_bind, M.opt_some, M.raise_bind, callP_bind, callL_bind, callS_bind, callSL_bind, mForB_bind, mCompB_bind, mCompBL_bind, callP_0, callP_1, callP_2, callP_3, callP_4, callP_5, callP_6, callL_0, callL_1, callL_2, callL_3, callL_4, callL_5, callL_6, callS_0, callS_1, callS_2, callS_3, callS_4, callS_5, callS_6, callSL_0, callSL_1, callSL_2, callSL_3, callSL_4, M.pur_pure, M.pur_raise, M.nox_pure, retD_bind, retD_ret, retD_nx, retD_raise, retLst_bind, retLst_retL, retLst_raise, exits_bind, exits_ret, exits_retL, exits_brk, exits_cnt, exits_raise, andThen_bind, andThen_nx, andThen_ret, andThen_retL, andThen_brk, andThen_cnt, andThen_raise, bnd2, bnd3, bnd4, bndL2, if_true, if_false, Bool.false_eq_true, Bool.not_true, Bool.not_false, reduceIte, dAdd_int, dSub_int, dCmp_int, dEq_int, dNe_int, dLen_list, dLen_tup, dInt_int, dItems_list, dItems_tup, dListOf_list, dListOf_tup, dTuple_list, dTuple_tup, dLst_0, dTup_0, dLst_1, dTup_1, dLst_2, dTup_2, dLst_3, dTup_3, dLst_4, dTup_4, dLst_5, dTup_5, dLst_6, dTup_6, dLst_7, dTup_7, dLst_8, dTup_8, dLst_9, dTup_9, dLst_10, dTup_10, dLst_11, dTup_11, dLst_12, dTup_12, dIsN, dNeg_int, isI, dInt1])
  refine (t_any (Q := fun d => ∃ m : Int, d = .int m ∧ 0 ≤ m ∧ m ≤ 40) (by simp) (by simp) fun x hx => ?_).noxB fun d ⟨many, e, m0, m1⟩ => ?_
  · simp only [List.mem_cons, List.not_mem_nil, or_false] at hx
    rcases hx with rfl | rfl | rfl <;> exact ⟨_, rfl, by decide, by decide⟩
  subst e
  (try simp only [mCons, mB, mBB, mBL, mSeq, mBin, mBinL, mCmp, mChain, mOfB, mOfL, mTo, mIsI, mIsI2, mNot, mAnd, mOr, mIf, mIfx, mIfj, mRet, mRetL, mDo, mUnp, mSl, mSlL, mEnd, mApp, mExt, mRem, mStore, mRaise1, mPar, mParLL, mRng1, mRng2, mTRng, mLRng, mIxT, mStoreT, mDict1, mApp2, mPut2, mAppPop, M.bind_assoc, M.pure_bind, M.opt_some, M.raise_bind, callP_bind, callL_bind, callS_bind, callSL_bind, mForB_bind, mCompB_bind, mCompBL_bind, callP_0, callP_1, callP_2, callP_3, callP_4, callP_5, callP_6, callL_0, callL_1, callL_2, callL_3, callL_4, callL_5, callL_6, callS_0, callS_1, callS_2, callS_3, callS_4, callS_5, callS_6, callSL_0, callSL_1, callSL_2, callSL_3, callSL_4, M.pur_pure, M.pur_raise, M.nox_pure, retD_bind, retD_ret, retD_nx, retD_raise, retLst_bind, retLst_retL, retLst_raise, exits_bind, exits_ret, exits_retL, exits_brk, exits_cnt, exits_raise, andThen_bind, andThen_nx, andThen_ret, andThen_retL, andThen_brk, andThen_cnt, andThen_raise, bnd2, bnd3, bnd4, bndL2, if_true, if_false, Bool.false_eq_true, Bool.not_true, Bool.not_false, reduceIte, dAdd_int, dSub_int, dCmp_int, dEq_int, dNe_int, dLen_list, dLen_tup, dInt_int, dItems_list, dItems_tup, dListOf_list, dListOf_tup, dTuple_list, dTuple_tup, dLst_0, dTup_0, dLst_1, dTup_1, dLst_2, dTup_2, dLst_3, dTup_3, dLst_4, dTup_4, dLst_5, dTup_5, dLst_6, dTup_6, dLst_7, dTup_7, dLst_8, dTup_8, dLst_9, dTup_9, dLst_10, dTup_10, dLst_11, dTup_11, dLst_12, dTup_12, dIsN, dNeg_int, isI, dInt1])
  refine (t_turns hh hp m0 (by omega)).noxB fun d ⟨rows, h', e, hl, hf⟩ => ?_
  subst e
  have hn1 := hh.1
  have hn2 := hh.2.1
  (try simp only [mCons, mB, mBB, mBL, mSeq, mBin, mBinL, mCmp, mChain, mOfB, mOfL, mTo, mIsI, mIsI2, mNot, mAnd, mOr, mIf, mIfx, mIfj, mRet, mRetL, mDo, mUnp, mSl, mSlL, mEnd, mApp, mExt, mRem, mStore, mRaise1, mPar, mParLL, mRng1, mRng2, mTRng, mLRng, mIxT, mStoreT, mDict1, mApp2, mPut2, mAppPop, M.bind_assoc, M.pure_bind, M.opt_some, M.raise_bind, callP_bind, callL_bind, callS_bind, callSL_bind, mForB_bind, mCompB_bind, mCompBL_bind, callP_0, callP_1, callP_2, callP_3, callP_4, callP_5, callP_6, callL_0, callL_1, callL_2, callL_3, callL_4, callL_5, callL_6, callS_0, callS_1, callS_2, callS_3, callS_4, callS_5, callS_6, callSL_0, callSL_1, callSL_2, callSL_3, callSL_4, M.pur_pure, M.pur_raise, M.nox_pure, retD_bind, retD_ret, retD_nx, retD_raise, retLst_bind, retLst_retL, retLst_raise, exits_bind, exits_ret, exits_retL, exits_brk, exits_cnt, exits_raise, andThen_bind, andThen_nx, andThen_ret, andThen_retL, andThen_brk, andThen_cnt, andThen_raise, bnd2, bnd3, bnd4, bndL2, if_true, if_false, Bool.false_eq_true, Bool.not_true, Bool.not_false, reduceIte, dAdd_int, dSub_int, dCmp_int, dEq_int, dNe_int, dLen_list, dLen_tup, dInt_int, dItems_list, dItems_tup, dListOf_list, dListOf_tup, dTuple_list, dTuple_tup, dLst_0, dTup_0, dLst_1, dTup_1, dLst_2, dTup_2, dLst_3, dTup_3, dLst_4, dTup_4, dLst_5, dTup_5, dLst_6, dTup_6, dLst_7, dTup_7, dLst_8, dTup_8, dLst_9, dTup_9, dLst_10, dTup_10, dLst_11, dTup_11, dLst_12, dTup_12, dIsN, dNeg_int, isI, dInt1, dLen_encH, rng1_ok (n := (h.length : Int)) (by omega), Int.toNat_natCast])
  refine (t_any (Q := fun d => ∃ p : Int, d = .int p ∧ 0 ≤ p ∧ p < h.length) (by rw [rngD_len]; omega) (by rw [rngD_len]; omega) fun x hx => ?_).noxB fun d ⟨p, e, q0, q1⟩ => ?_
  · obtain ⟨i, e, i0, i1⟩ := rngD_mem hx
    exact ⟨i, e, i0, by omega⟩
  subst e
  (try simp only [mCons, mB, mBB, mBL, mSeq, mBin, mBinL, mCmp, mChain, mOfB, mOfL, mTo, mIsI, mIsI2, mNot, mAnd, mOr, mIf, mIfx, mIfj, mRet, mRetL, mDo, mUnp, mSl, mSlL, mEnd, mApp, mExt, mRem, mStore, mRaise1, mPar, mParLL, mRng1, mRng2, mTRng, mLRng, mIxT, mStoreT, mDict1, mApp2, mPut2, mAppPop, M.bind_assoc, M.pure_bind, M.opt_some, M.raise_bind, callP_bind, callL_bind, callS_bind, callSL_bind, mForB_bind, mCompB_bind, mCompBL_bind, callP_0, callP_1, callP_2, callP_3, callP_4, callP_5, callP_6, callL_0, callL_1, callL_2, callL_3, callL_4, callL_5, callL_6, callS_0, callS_1, callS_2, callS_3, callS_4, callS_5, callS_6, callSL_0, callSL_1, callSL_2, callSL_3, callSL_4, M.pur_pure, M.pur_raise, M.nox_pure, retD_bind, retD_ret, retD_nx, retD_raise, retLst_bind, retLst_retL, retLst_raise, exits_bind, exits_ret, exits_retL, exits_brk, exits_cnt, exits_raise, andThen_bind, andThen_nx, andThen_ret, andThen_retL, andThen_brk, andThen_cnt, andThen_raise, bnd2, bnd3, bnd4, bndL2, if_true, if_false, Bool.false_eq_true, Bool.not_true, Bool.not_false, reduceIte, dAdd_int, dSub_int, dCmp_int, dEq_int, dNe_int, dLen_list, dLen_tup, dInt_int, dItems_list, dItems_tup, dListOf_list, dListOf_tup, dTuple_list, dTuple_tup, dLst_0, dTup_0, dLst_1, dTup_1, dLst_2, dTup_2, dLst_3, dTup_3, dLst_4, dTup_4, dLst_5, dTup_5, dLst_6, dTup_6, dLst_7, dTup_7, dLst_8, dTup_8, dLst_9, dTup_9, dLst_10, dTup_10, dLst_11, dTup_11, dLst_12, dTup_12, dIsN, dNeg_int, isI, dInt1])
  refine (t_some (l := rngD 0 h.length) (share := 2) (by omega) (by omega) (by rw [rngD_len]; omega)).noxB fun d ⟨r1, e, s1⟩ => ?_
  subst e
  (try simp only [mCons, mB, mBB, mBL, mSeq, mBin, mBinL, mCmp, mChain, mOfB, mOfL, mTo, mIsI, mIsI2, mNot, mAnd, mOr, mIf, mIfx, mIfj, mRet, mRetL, mDo, mUnp, mSl, mSlL, mEnd, mApp, mExt, mRem, mStore, mRaise1, mPar, mParLL, mRng1, mRng2, mTRng, mLRng, mIxT, mStoreT, mDict1, mApp2, mPut2, mAppPop, M.bind_assoc, M.pure_bind, M.opt_some, M.raise_bind, callP_bind, callL_bind, callS_bind, callSL_bind, mForB_bind, mCompB_bind, mCompBL_bind, callP_0, callP_1, callP_2, callP_3, callP_4, callP_5, callP_6, callL_0, callL_1, callL_2, callL_3, callL_4, callL_5, callL_6, callS_0, callS_1, callS_2, callS_3, callS_4, callS_5, callS_6, callSL_0, callSL_1, callSL_2, callSL_3, callSL_4, M.pur_pure, M.pur_raise, M.nox_pure, retD_bind, retD_ret, retD_nx, retD_raise, retLst_bind, retLst_retL, retLst_raise, exits_bind, exits_ret, exits_retL, exits_brk, exits_cnt, exits_raise, andThen_bind, andThen_nx, andThen_ret, andThen_retL, andThen_brk, andThen_cnt, andThen_raise, bnd2, bnd3, bnd4, bndL2, if_true, if_false, Bool.false_eq_true, Bool.not_true, Bool.not_false, reduceIte, dAdd_int, dSub_int, dCmp_int, dEq_int, dNe_int, dLen_list, dLen_tup, dInt_int, dItems_list, dItems_tup, dListOf_list, dListOf_tup, dTuple_list, dTuple_tup, dLst_0, dTup_0, dLst_1, dTup_1, dLst_2, dTup_2, dLst_3, dTup_3, dLst_4, dTup_4, dLst_5, dTup_5, dLst_6, dTup_6, dLst_7, dTup_7, dLst_8, dTup_8, dLst_9, dTup_9, dLst_10, dTup_10, dLst_11, dTup_11, dLst_12, dTup_12, dIsN, dNeg_int, isI, dInt1])
  refine (t_some (l := rngD 0 h.length) (share := 5) (by omega) (by omega) (by rw [rngD_len]; omega)).noxB fun d ⟨r2, e, s2⟩ => ?_
  subst e
  (try simp only [mCons, mB, mBB, mBL, mSeq, mBin, mBinL, mCmp, mChain, mOfB, mOfL, mTo, mIsI, mIsI2, mNot, mAnd, mOr, mIf, mIfx, mIfj, mRet, mRetL, mDo, mUnp, mSl, mSlL, mEnd, mApp, mExt, mRem, mStore, mRaise1, mPar, mParLL, mRng1, mRng2, mTRng, mLRng, mIxT, mStoreT, mDict1, mApp2, mPut2, mAppPop, M.bind_assoc, M.pure_bind, M.opt_some, M.raise_bind, callP_bind, callL_bind, callS_bind, callSL_bind, mForB_bind, mCompB_bind, mCompBL_bind, callP_0, callP_1, callP_2, callP_3, callP_4, callP_5, callP_6, callL_0, callL_1, callL_2, callL_3, callL_4, callL_5, callL_6, callS_0, callS_1, callS_2, callS_3, callS_4, callS_5, callS_6, callSL_0, callSL_1, callSL_2, callSL_3, callSL_4, M.pur_pure, M.pur_raise, M.nox_pure, retD_bind, retD_ret, retD_nx, retD_raise, retLst_bind, retLst_retL, retLst_raise, exits_bind, exits_ret, exits_retL, exits_brk, exits_cnt, exits_raise, andThen_bind, andThen_nx, andThen_ret, andThen_retL, andThen_brk, andThen_cnt, andThen_raise, bnd2, bnd3, bnd4, bndL2, if_true, if_false, Bool.false_eq_true, Bool.not_true, Bool.not_false, reduceIte, dAdd_int, dSub_int, dCmp_int, dEq_int, dNe_int, dLen_list, dLen_tup, dInt_int, dItems_list, dItems_tup, dListOf_list, dListOf_tup, dTuple_list, dTuple_tup, dLst_0, dTup_0, dLst_1, dTup_1, dLst_2, dTup_2, dLst_3, dTup_3, dLst_4, dTup_4, dLst_5, dTup_5, dLst_6, dTup_6, dLst_7, dTup_7, dLst_8, dTup_8, dLst_9, dTup_9, dLst_10, dTup_10, dLst_11, dTup_11, dLst_12, dTup_12, dIsN, dNeg_int, isI, dInt1])
  obtain ⟨k1, rfl, hk1⟩ := sublist_play s1
  obtain ⟨k2, rfl, hk2⟩ := sublist_play s2
  refine Tri.forB' (fun _ => True) trivial (fun d hd _ _ => ⟨d, rfl, ?_⟩) fun _ _ => ?_
  · have hkn : ∃ kn : List Int, d = encB kn ∧ PlayT h.length kn := by
      simp only [List.mem_cons, List.not_mem_nil, or_false] at hd
      rcases hd with rfl | rfl | rfl | rfl
      · exact ⟨[], rfl, by simp [PlayT]⟩
      · exact ⟨[p], rfl, by simp [PlayT]; omega⟩
      · exact ⟨k1, rfl, hk1⟩
      · exact ⟨k2, rfl, hk2⟩
    obtain ⟨kn, rfl, hk⟩ := hkn
    refine (t_rows_right hh hp hk hf (by omega)).noxB fun d e => ?_
    subst e
    (try simp only [mCons, mB, mBB, mBL, mSeq, mBin, mBinL, mCmp, mChain, mOfB, mOfL, mTo, mIsI, mIsI2, mNot, mAnd, mOr, mIf, mIfx, mIfj, mRet, mRetL, mDo, mUnp, mSl, mSlL, mEnd, mApp, mExt, mRem, mStore, mRaise1, mPar, mParLL, mRng1, mRng2, mTRng, mLRng, mIxT, mStoreT, mDict1, mApp2, mPut2, mAppPop, M.bind_assoc, M.pure_bind, M.opt_some, M.raise_bind, callP_bind, callL_bind, callS_bind, callSL_bind, mForB_bind, mCompB_bind, mCompBL_bind, callP_0, callP_1, callP_2, callP_3, callP_4, callP_5, callP_6, callL_0, callL_1, callL_2, callL_3, callL_4, callL_5, callL_6, callS_0, callS_1, callS_2, callS_3, callS_4, callS_5, callS_6, callSL_0, callSL_1, callSL_2, callSL_3, callSL_4, M.pur_pure, M.pur_raise, M.nox_pure, retD_bind, retD_ret, retD_nx, retD_raise, retLst_bind, retLst_retL, retLst_raise, exits_bind, exits_ret, exits_retL, exits_brk, exits_cnt, exits_raise, andThen_bind, andThen_nx, andThen_ret, andThen_retL, andThen_brk, andThen_cnt, andThen_raise, bnd2, bnd3, bnd4, bndL2, if_true, if_false, Bool.false_eq_true, Bool.not_true, Bool.not_false, reduceIte, dAdd_int, dSub_int, dCmp_int, dEq_int, dNe_int, dLen_list, dLen_tup, dInt_int, dItems_list, dItems_tup, dListOf_list, dListOf_tup, dTuple_list, dTuple_tup, dLst_0, dTup_0, dLst_1, dTup_1, dLst_2, dTup_2, dLst_3, dTup_3, dLst_4, dTup_4, dLst_5, dTup_5, dLst_6, dTup_6, dLst_7, dTup_7, dLst_8, dTup_8, dLst_9, dTup_9, dLst_10, dTup_10, dLst_11, dTup_11, dLst_12, dTup_12, dIsN, dNeg_int, isI, dInt1, dBool_bool])
    exact .pure ⟨_, .inl rfl, trivial⟩
  · refine (t_refused_right hh hp hf (by omega)).noxB fun d e => ?_
    subst e
    (try simp only [mCons, mB, mBB, mBL, mSeq, mBin, mBinL, mCmp, mChain, mOfB, mOfL, mTo, mIsI, mIsI2, mNot, mAnd, mOr, mIf, mIfx, mIfj, mRet, mRetL, mDo, mUnp, mSl, mSlL, mEnd, mApp, mExt, mRem, mStore, mRaise1, mPar, mParLL, mRng1, mRng2, mTRng, mLRng, mIxT, mStoreT, mDict1, mApp2, mPut2, mAppPop, M.bind_assoc, M.pure_bind, M.opt_some, M.raise_bind, callP_bind, callL_bind, callS_bind, callSL_bind, mForB_bind, mCompB_bind, mCompBL_bind, callP_0, callP_1, callP_2, callP_3, callP_4, callP_5, callP_6, callL_0, callL_1, callL_2, callL_3, callL_4, callL_5, callL_6, callS_0, callS_1, callS_2, callS_3, callS_4, callS_5, callS_6, callSL_0, callSL_1, callSL_2, callSL_3, callSL_4, M.pur_pure, M.pur_raise, M.nox_pure, retD_bind, retD_ret, retD_nx, retD_raise, retLst_bind, retLst_retL, retLst_raise, exits_bind, exits_ret, exits_retL, exits_brk, exits_cnt, exits_raise, andThen_bind, andThen_nx, andThen_ret, andThen_retL, andThen_brk, andThen_cnt, andThen_raise, bnd2, bnd3, bnd4, bndL2, if_true, if_false, Bool.false_eq_true, Bool.not_true, Bool.not_false, reduceIte, dAdd_int, dSub_int, dCmp_int, dEq_int, dNe_int, dLen_list, dLen_tup, dInt_int, dItems_list, dItems_tup, dListOf_list, dListOf_tup, dTuple_list, dTuple_tup, dLst_0, dTup_0, dLst_1, dTup_1, dLst_2, dTup_2, dLst_3, dTup_3, dLst_4, dTup_4, dLst_5, dTup_5, dLst_6, dTup_6, dLst_7, dTup_7, dLst_8, dTup_8, dLst_9, dTup_9, dLst_10, dTup_10, dLst_11, dTup_11, dLst_12, dTup_12, dIsN, dNeg_int, isI, dInt1, dBool_bool])
    exact .pure ⟨_, .inl rfl, trivial⟩
theorem law_ok (ns : List Int) (h : ns.length ≤ 63) : ∃ ws s1 s2, retLst (B__law_hand ns) [] = .ok (ws, s1) ∧ retD B_law ws = .ok (.bool true, s2) := by
  obtain ⟨ws, s1, e, hw⟩ := hand_ok h
  obtain ⟨d, s2, e2, _, rfl⟩ := t_law ws hw
  exact ⟨ws, s1, s2, e, e2⟩
end Law
end
section
set_option Elab.async false
set_option linter.all false
set_option maxRecDepth 100000
set_option maxHeartbeats 0
namespace Law
open PySem PySem.Spec PyProof.Rows L2 Sim
def fd_ (x : Str) (i : Nat) : He.DefD := ⟨(x, none), x, x, defArgs (top i), defBody (top i), defScope (top i), [], []⟩
def ini_BadRows : Stmt := match top 12 with
  | .ClassDef _ _ _ b _ _ _ _ _ _ _ => b.getD 0 (.Pass ⟨0, 0, 0, 0⟩)
  | s => s
def fi_BadRows : He.DefD := ⟨("BadRows", some "__init__"), "__init__", "BadRows.__init__", defArgs ini_BadRows, defBody ini_BadRows, defScope ini_BadRows, [], []⟩
def fn : List He.DefD := [fd_ "is_integer" 1, fd_ "is_within" 2, fd_ "is_row_of" 3, fd_ "is_bag" 4, fd_ "is_rising" 5, fd_ "less" 6, fd_ "is_book" 16, fd_ "is_hall" 17, fd_ "check_hall" 18, fd_ "check_players" 19, fd_ "is_person" 20, fd_ "exchanged" 23, fd_ "goes" 24, fd_ "behind" 25, fd_ "halls_of" 26, fd_ "knowing_behind" 28, fd_ "check_knowing" 29, fd_ "told" 30, fd_ "_law_hand" 32, fd_ "_law_draw" 33, fd_ "_law_any" 34, fd_ "_law_some" 35, fd_ "_law_mixed" 36, fd_ "_law_same" 37, fd_ "_law_hall" 38, fd_ "_law_put" 39, fd_ "_law_done" 40, fd_ "_law_odd" 41, fd_ "_law_drawn_turns" 42, fd_ "_law_spread" 43, fd_ "_law_said" 44, fd_ "_law_goes" 45, fd_ "_law_first_bad" 46, fd_ "_law_bent_rows" 47, fd_ "_law_rows_right" 48, fd_ "_law_refused_right" 49, fd_ "_law_known_right" 50, fd_ "law" 51, fi_BadRows]
def fa : List He.Fa := [.glo "is_integer", .glo "is_within", .glo "is_row_of", .glo "is_bag", .glo "is_rising", .glo "less", .glo "is_book", .glo "is_hall", .glo "check_hall", .glo "check_players", .glo "is_person", .glo "exchanged", .glo "goes", .glo "behind", .glo "halls_of", .glo "knowing_behind", .glo "check_knowing", .glo "told", .glo "_law_hand", .glo "_law_draw", .glo "_law_any", .glo "_law_some", .glo "_law_mixed", .glo "_law_same", .glo "_law_hall", .glo "_law_put", .glo "_law_done", .glo "_law_odd", .glo "_law_drawn_turns", .glo "_law_spread", .glo "_law_said", .glo "_law_goes", .glo "_law_first_bad", .glo "_law_bent_rows", .glo "_law_rows_right", .glo "_law_refused_right", .glo "_law_known_right", .glo "law", .glo "CardFault", .glo "BadHall", .glo "BadKnowing", .glo "BadPlayers", .glo "BadRows", .free "abs", .free "all", .free "any", .free "bool", .free "enumerate", .free "int", .free "isinstance", .free "len", .free "list", .free "max", .free "min", .free "range", .free "reversed", .free "set", .free "sorted", .free "str", .free "sum", .free "tuple", .free "zip", .free "ValueError", .int "MOST_PERSONS" 12, .int "MOST_CARDS" 16, .int "MOST_ROWS" 1000000, .exc "CardFault", .exc "BadHall", .exc "BadKnowing", .exc "BadPlayers"]
def tf : List He.Defn := [("_law_rows_right", none), ("_law_refused_right", none)]
def own_ : List Str := ["CardFault", "BadHall", "BadKnowing", "BadPlayers", "BadRows"]
def ask_ : List Str := ["BadHall", "BadPlayers", "BadKnowing", "BadRows", "ValueError"]
def fs_ : List Str := ["at"]
def kn_ : List Str := ["BadHall", "BadPlayers", "BadRows", "BadKnowing"]
def exL (K : PySem.W.Frag) : List Bool := [(kn_.all fun nm => errB K own_ "CardFault" nm ask_ fs_ sub_),
  (oexB K (He.ga K "BadRows") && (decide (PySem.W.findIn K (.ref (He.ga K "BadRows")) "at" = some none) && (decide (PySem.W.findIn K (.ref (He.ga K "BadRows")) "__init__" = some (some (.ref (He.ma K (He.ga K "BadRows") "__init__")))) && decide (PySem.W.typeIn K (.ref (He.ma K (He.ga K "BadRows") "__init__")) = some (.type "function"))))),
  decide ((He.cT K ("_law_refused_right", none)).2 ≠ (He.cT K ("_law_rows_right", none)).2)]
def ex (K : PySem.W.Frag) : Bool := (exL K).all fun b => b
abbrev R : PySem.W.OpenRow := PySem.W.OpenLaw.row PySem.Challenge.rw_cardturns_k42_news_along_rows
abbrev hk : PySem.W.Hook := He.hookX 6 fa fn [] tf ex
def ob (s : PySem.W.SharedT) : He.AlX := He.obsX 6 fa fn [] tf ex (HandSHeadRun.getT s)
theorem ob_eq (s : PySem.W.SharedT) : ob s = hk.obs s.abs := He.obsX_eq (HandSHeadRun.getT_eq s)
def loose : List Str := (["is_integer", "is_within", "is_row_of", "is_bag", "is_rising", "less", "CardFault", "BadHall", "BadKnowing", "BadPlayers", "BadRows", "MOST_PERSONS", "MOST_CARDS", "is_book", "is_hall"] : List Str) ++ (["check_hall", "check_players", "is_person", "MOST_ROWS", "exchanged", "goes", "behind", "halls_of", "knowing_behind", "check_knowing", "told", "_law_hand", "_law_draw", "_law_any", "_law_some"] : List Str) ++ (["_law_mixed", "_law_same", "_law_hall", "_law_put", "_law_done", "_law_odd", "_law_drawn_turns", "_law_spread", "_law_said", "_law_goes", "_law_first_bad", "_law_bent_rows", "_law_rows_right", "_law_refused_right", "_law_known_right"] : List Str)
theorem run (w : World) : HandSHeadRun.RunEq R (PySem.W.view R.prog [51]) hk ob 3000 loose w := by
  intro os
  kernel_rfl
end Law
end
section
set_option Elab.async false
set_option linter.all false
set_option maxRecDepth 100000
set_option maxHeartbeats 4000000
namespace Law
open PySem PySem.Spec PyProof.Rows L2 Sim
def TT (K : PySem.W.Frag) : List (Addr × Str) := [((He.cT K ("_law_rows_right", none)).2, lamQ "_law_rows_right"), ((He.cT K ("_law_refused_right", none)).2, lamQ "_law_refused_right")]
theorem ask_of {n c : Str} {b : Bool} {ask : List Str} {l : List ((Str × Str) × Bool)} (m : ((n, c), b) ∈ l) (h : (l.all fun p => ask.contains p.1.2) = true) : c ∈ ask := by
  have := List.all_eq_true.mp h _ m
  simpa using this
theorem mem_lk {α β : Type} [BEq α] [LawfulBEq α] {k : α} {v : β} : ∀ {l : List (α × β)}, l.lookup k = some v → (k, v) ∈ l
  | [], h => by cases h
  | (a, b) :: r, h => by
    by_cases e : (k == a) = true
    · simp only [List.lookup, e] at h
      cases h
      rw [beq_iff_eq.mp e]
      exact List.mem_cons_self
    · have e' : (k == a) = false := by simpa using e
      simp only [List.lookup, e'] at h
      exact List.mem_cons_of_mem _ (mem_lk h)
theorem sub_ask (n c : Str) (b : Bool) (h : sub_ n c = some b) : c ∈ ask_ := by
  unfold sub_ at h
  have m := mem_lk h
  exact ask_of m (by decide +kernel)
section
variable {P : Program} {w : World} {K : PySem.W.Frag} {h : Heap} {mg : Str → Option Value} {base : Heap}
theorem exAt (c : He.SaysX fa fn [] tf ex w h K) : ∀ b ∈ exL K, b = true := fun b hb => by
  have := c.more
  unfold ex at this
  exact List.all_eq_true.mp this b hb
theorem askOwn (X : K.In h) (G : h.Ns mainGlobals mg) (c : He.SaysX fa fn [] tf ex w h K) : ∀ x ∈ ask_, own_.contains x = true → mg x = some (.ref (He.ga K x)) := by
  have cd := c.t.d
  intro x hx ho
  simp only [ask_, List.mem_cons, List.not_mem_nil, or_false] at hx
  rcases hx with rfl | rfl | rfl | rfl | rfl
  · exact (He.glo_ok X G (cd.fact 39 (f := .glo "BadHall") rfl))
  · exact (He.glo_ok X G (cd.fact 41 (f := .glo "BadPlayers") rfl))
  · exact (He.glo_ok X G (cd.fact 40 (f := .glo "BadKnowing") rfl))
  · exact (He.glo_ok X G (cd.fact 42 (f := .glo "BadRows") rfl))
  · exact absurd ho (by decide +kernel)
theorem askBlt (X : K.In h) (G : h.Ns mainGlobals mg) (c : He.SaysX fa fn [] tf ex w h K) : ∀ x ∈ ask_, own_.contains x = false → x = "ValueError" ∧ mg x = none := by
  have cd := c.t.d
  intro x hx ho
  simp only [ask_, List.mem_cons, List.not_mem_nil, or_false] at hx
  rcases hx with rfl | rfl | rfl | rfl | rfl
  · exact absurd ho (by decide +kernel)
  · exact absurd ho (by decide +kernel)
  · exact absurd ho (by decide +kernel)
  · exact absurd ho (by decide +kernel)
  · exact ⟨rfl, (He.free_ok X G (cd.fact 62 (f := .free "ValueError") rfl))⟩
theorem catch_CardFault_ (X : K.In h) (G : h.Ns mainGlobals mg) (c : He.SaysX fa fn [] tf ex w h K) : Catch K mg (He.ga K "CardFault") known_ sub_ fld_ := by
  intro x hk
  have cd := c.t.d
  have ha : (kn_.all fun nm => errB K own_ "CardFault" nm ask_ fs_ sub_) = true := exAt c _ (List.mem_of_getElem? (i := 0) rfl)
  have hk' : x.name ∈ kn_ := List.contains_iff_mem.mp hk
  have ha := List.all_eq_true.mp ha _ hk'
  have hg : mg x.name = some (.ref (He.ga K x.name)) := by
    obtain ⟨nm, as⟩ := x
    simp only [kn_, List.mem_cons, List.not_mem_nil, or_false] at hk'
    rcases hk' with rfl | rfl | rfl | rfl
    · exact (He.glo_ok X G (cd.fact 39 (f := .glo "BadHall") rfl))
    · exact (He.glo_ok X G (cd.fact 41 (f := .glo "BadPlayers") rfl))
    · exact (He.glo_ok X G (cd.fact 42 (f := .glo "BadRows") rfl))
    · exact (He.glo_ok X G (cd.fact 40 (f := .glo "BadKnowing") rfl))
  obtain ⟨E, C⟩ := errB_ok ha hg (askOwn X G c) (askBlt X G c) (sub_ask x.name)
  exact ⟨_, E, C⟩
theorem oex_BadRows_ (X : K.In h) (G : h.Ns mainGlobals mg) (c : He.SaysX fa fn [] tf ex w h K) : OexF P w K mg base "BadRows" "at" (He.ga K "BadRows") := by
  have cd := c.t.d
  have ha : (oexB K (He.ga K "BadRows") && (decide (PySem.W.findIn K (.ref (He.ga K "BadRows")) "at" = some none) && (decide (PySem.W.findIn K (.ref (He.ga K "BadRows")) "__init__" = some (some (.ref (He.ma K (He.ga K "BadRows") "__init__")))) && decide (PySem.W.typeIn K (.ref (He.ma K (He.ga K "BadRows") "__init__")) = some (.type "function"))))) = true := exAt c _ (List.mem_of_getElem? (i := 1) rfl)
  obtain ⟨h1, h⟩ := Bool.and_eq_true_iff.mp ha
  obtain ⟨h2, h⟩ := Bool.and_eq_true_iff.mp h
  obtain ⟨h3, h4⟩ := Bool.and_eq_true_iff.mp h
  obtain ⟨fd, F⟩ := cd.def_ 38 (d := fi_BadRows) rfl
  exact ⟨(He.glo_ok X G (cd.fact 42 (f := .glo "BadRows") rfl)), oexB_ok h1, _, fd, ["self", "at"], of_decide_eq_true h3, of_decide_eq_true h4, ok_init (oexB_ok h1) (of_decide_eq_true h2) F ⟨rfl, rfl, rfl, by decide +kernel, rfl, by decide +kernel, by decide +kernel⟩ rfl rfl (by decide) (by decide) (fun _ => rfl), F.bindsN fun _ _ _ _ _ _ us hl => match us, hl with | [_, _], _ => rfl⟩
theorem lam__law_rows_right_ (X : K.In h) (G : h.Ns mainGlobals mg) (c : He.SaysX fa fn [] tf ex w h K) (TB : ∀ p ∈ tf.map (He.cT K), LamX.TabB base mg p.1 p.2) : LamAt K mg base (TT K) "_law_rows_right" (top 48) := by
  have cd := c.t.d
  obtain ⟨fd, F⟩ := cd.def_ 34 (d := fd_ "_law_rows_right" 48) rfl
  refine lamAt_of (k := ("_law_rows_right", none)) rfl F (He.glo_ok X G (cd.fact 34 (f := .glo "_law_rows_right") rfl)) (TB _ (List.mem_map.mpr ⟨_, List.mem_of_getElem? (i := 0) rfl, rfl⟩)) (List.mem_of_getElem? (i := 0) rfl) fun p hp e => ?_
  simp only [TT, List.mem_cons, List.not_mem_nil, or_false] at hp
  rcases hp with rfl | rfl
  · exact rfl
  · exact absurd e (of_decide_eq_true (exAt c _ (List.mem_of_getElem? (i := 2) rfl)))
theorem lam__law_refused_right_ (X : K.In h) (G : h.Ns mainGlobals mg) (c : He.SaysX fa fn [] tf ex w h K) (TB : ∀ p ∈ tf.map (He.cT K), LamX.TabB base mg p.1 p.2) : LamAt K mg base (TT K) "_law_refused_right" (top 49) := by
  have cd := c.t.d
  obtain ⟨fd, F⟩ := cd.def_ 35 (d := fd_ "_law_refused_right" 49) rfl
  refine lamAt_of (k := ("_law_refused_right", none)) rfl F (He.glo_ok X G (cd.fact 35 (f := .glo "_law_refused_right") rfl)) (TB _ (List.mem_map.mpr ⟨_, List.mem_of_getElem? (i := 1) rfl, rfl⟩)) (List.mem_of_getElem? (i := 1) rfl) fun p hp e => ?_
  simp only [TT, List.mem_cons, List.not_mem_nil, or_false] at hp
  rcases hp with rfl | rfl
  · exact absurd e.symm (of_decide_eq_true (exAt c _ (List.mem_of_getElem? (i := 2) rfl)))
  · exact rfl
theorem txt (X : K.In h) (G : h.Ns mainGlobals mg) (c : He.SaysX fa fn [] tf ex w h K) (TB : ∀ p ∈ tf.map (He.cT K), LamX.TabB base mg p.1 p.2) : Txt P w K mg base (TT K) :=
  have cd := c.t.d
  { g_CardFault := (He.glo_ok X G (cd.fact 38 (f := .glo "CardFault") rfl))
    catch_CardFault := catch_CardFault_ X G c
    lam__law_rows_right := lam__law_rows_right_ X G c TB
    lam__law_refused_right := lam__law_refused_right_ X G c TB
    d_is_integer := (by obtain ⟨fd, F⟩ := cd.def_ 0 (d := fd_ "is_integer" 1) rfl; exact ⟨_, fd, F, (He.glo_ok X G (cd.fact 0 (f := .glo "is_integer") rfl))⟩)
    d_is_within := (by obtain ⟨fd, F⟩ := cd.def_ 1 (d := fd_ "is_within" 2) rfl; exact ⟨_, fd, F, (He.glo_ok X G (cd.fact 1 (f := .glo "is_within") rfl))⟩)
    d_is_row_of := (by obtain ⟨fd, F⟩ := cd.def_ 2 (d := fd_ "is_row_of" 3) rfl; exact ⟨_, fd, F, (He.glo_ok X G (cd.fact 2 (f := .glo "is_row_of") rfl))⟩)
    d_is_bag := (by obtain ⟨fd, F⟩ := cd.def_ 3 (d := fd_ "is_bag" 4) rfl; exact ⟨_, fd, F, (He.glo_ok X G (cd.fact 3 (f := .glo "is_bag") rfl))⟩)
    d_is_rising := (by obtain ⟨fd, F⟩ := cd.def_ 4 (d := fd_ "is_rising" 5) rfl; exact ⟨_, fd, F, (He.glo_ok X G (cd.fact 4 (f := .glo "is_rising") rfl))⟩)
    d_less := (by obtain ⟨fd, F⟩ := cd.def_ 5 (d := fd_ "less" 6) rfl; exact ⟨_, fd, F, (He.glo_ok X G (cd.fact 5 (f := .glo "less") rfl))⟩)
    d_is_book := (by obtain ⟨fd, F⟩ := cd.def_ 6 (d := fd_ "is_book" 16) rfl; exact ⟨_, fd, F, (He.glo_ok X G (cd.fact 6 (f := .glo "is_book") rfl))⟩)
    d_is_hall := (by obtain ⟨fd, F⟩ := cd.def_ 7 (d := fd_ "is_hall" 17) rfl; exact ⟨_, fd, F, (He.glo_ok X G (cd.fact 7 (f := .glo "is_hall") rfl))⟩)
    d_check_hall := (by obtain ⟨fd, F⟩ := cd.def_ 8 (d := fd_ "check_hall" 18) rfl; exact ⟨_, fd, F, (He.glo_ok X G (cd.fact 8 (f := .glo "check_hall") rfl))⟩)
    d_check_players := (by obtain ⟨fd, F⟩ := cd.def_ 9 (d := fd_ "check_players" 19) rfl; exact ⟨_, fd, F, (He.glo_ok X G (cd.fact 9 (f := .glo "check_players") rfl))⟩)
    d_is_person := (by obtain ⟨fd, F⟩ := cd.def_ 10 (d := fd_ "is_person" 20) rfl; exact ⟨_, fd, F, (He.glo_ok X G (cd.fact 10 (f := .glo "is_person") rfl))⟩)
    d_exchanged := (by obtain ⟨fd, F⟩ := cd.def_ 11 (d := fd_ "exchanged" 23) rfl; exact ⟨_, fd, F, (He.glo_ok X G (cd.fact 11 (f := .glo "exchanged") rfl))⟩)
    d_goes := (by obtain ⟨fd, F⟩ := cd.def_ 12 (d := fd_ "goes" 24) rfl; exact ⟨_, fd, F, (He.glo_ok X G (cd.fact 12 (f := .glo "goes") rfl))⟩)
    d_behind := (by obtain ⟨fd, F⟩ := cd.def_ 13 (d := fd_ "behind" 25) rfl; exact ⟨_, fd, F, (He.glo_ok X G (cd.fact 13 (f := .glo "behind") rfl))⟩)
    d_halls_of := (by obtain ⟨fd, F⟩ := cd.def_ 14 (d := fd_ "halls_of" 26) rfl; exact ⟨_, fd, F, (He.glo_ok X G (cd.fact 14 (f := .glo "halls_of") rfl))⟩)
    d_knowing_behind := (by obtain ⟨fd, F⟩ := cd.def_ 15 (d := fd_ "knowing_behind" 28) rfl; exact ⟨_, fd, F, (He.glo_ok X G (cd.fact 15 (f := .glo "knowing_behind") rfl))⟩)
    d_check_knowing := (by obtain ⟨fd, F⟩ := cd.def_ 16 (d := fd_ "check_knowing" 29) rfl; exact ⟨_, fd, F, (He.glo_ok X G (cd.fact 16 (f := .glo "check_knowing") rfl))⟩)
    d_told := (by obtain ⟨fd, F⟩ := cd.def_ 17 (d := fd_ "told" 30) rfl; exact ⟨_, fd, F, (He.glo_ok X G (cd.fact 17 (f := .glo "told") rfl))⟩)
    d__law_hand := (by obtain ⟨fd, F⟩ := cd.def_ 18 (d := fd_ "_law_hand" 32) rfl; exact ⟨_, fd, F, (He.glo_ok X G (cd.fact 18 (f := .glo "_law_hand") rfl))⟩)
    d__law_draw := (by obtain ⟨fd, F⟩ := cd.def_ 19 (d := fd_ "_law_draw" 33) rfl; exact ⟨_, fd, F, (He.glo_ok X G (cd.fact 19 (f := .glo "_law_draw") rfl))⟩)
    d__law_any := (by obtain ⟨fd, F⟩ := cd.def_ 20 (d := fd_ "_law_any" 34) rfl; exact ⟨_, fd, F, (He.glo_ok X G (cd.fact 20 (f := .glo "_law_any") rfl))⟩)
    d__law_some := (by obtain ⟨fd, F⟩ := cd.def_ 21 (d := fd_ "_law_some" 35) rfl; exact ⟨_, fd, F, (He.glo_ok X G (cd.fact 21 (f := .glo "_law_some") rfl))⟩)
    d__law_mixed := (by obtain ⟨fd, F⟩ := cd.def_ 22 (d := fd_ "_law_mixed" 36) rfl; exact ⟨_, fd, F, (He.glo_ok X G (cd.fact 22 (f := .glo "_law_mixed") rfl))⟩)
    d__law_same := (by obtain ⟨fd, F⟩ := cd.def_ 23 (d := fd_ "_law_same" 37) rfl; exact ⟨_, fd, F, (He.glo_ok X G (cd.fact 23 (f := .glo "_law_same") rfl))⟩)
    d__law_hall := (by obtain ⟨fd, F⟩ := cd.def_ 24 (d := fd_ "_law_hall" 38) rfl; exact ⟨_, fd, F, (He.glo_ok X G (cd.fact 24 (f := .glo "_law_hall") rfl))⟩)
    d__law_put := (by obtain ⟨fd, F⟩ := cd.def_ 25 (d := fd_ "_law_put" 39) rfl; exact ⟨_, fd, F, (He.glo_ok X G (cd.fact 25 (f := .glo "_law_put") rfl))⟩)
    d__law_done := (by obtain ⟨fd, F⟩ := cd.def_ 26 (d := fd_ "_law_done" 40) rfl; exact ⟨_, fd, F, (He.glo_ok X G (cd.fact 26 (f := .glo "_law_done") rfl))⟩)
    d__law_odd := (by obtain ⟨fd, F⟩ := cd.def_ 27 (d := fd_ "_law_odd" 41) rfl; exact ⟨_, fd, F, (He.glo_ok X G (cd.fact 27 (f := .glo "_law_odd") rfl))⟩)
    d__law_drawn_turns := (by obtain ⟨fd, F⟩ := cd.def_ 28 (d := fd_ "_law_drawn_turns" 42) rfl; exact ⟨_, fd, F, (He.glo_ok X G (cd.fact 28 (f := .glo "_law_drawn_turns") rfl))⟩)
    d__law_spread := (by obtain ⟨fd, F⟩ := cd.def_ 29 (d := fd_ "_law_spread" 43) rfl; exact ⟨_, fd, F, (He.glo_ok X G (cd.fact 29 (f := .glo "_law_spread") rfl))⟩)
    d__law_said := (by obtain ⟨fd, F⟩ := cd.def_ 30 (d := fd_ "_law_said" 44) rfl; exact ⟨_, fd, F, (He.glo_ok X G (cd.fact 30 (f := .glo "_law_said") rfl))⟩)
    d__law_goes := (by obtain ⟨fd, F⟩ := cd.def_ 31 (d := fd_ "_law_goes" 45) rfl; exact ⟨_, fd, F, (He.glo_ok X G (cd.fact 31 (f := .glo "_law_goes") rfl))⟩)
    d__law_first_bad := (by obtain ⟨fd, F⟩ := cd.def_ 32 (d := fd_ "_law_first_bad" 46) rfl; exact ⟨_, fd, F, (He.glo_ok X G (cd.fact 32 (f := .glo "_law_first_bad") rfl))⟩)
    d__law_bent_rows := (by obtain ⟨fd, F⟩ := cd.def_ 33 (d := fd_ "_law_bent_rows" 47) rfl; exact ⟨_, fd, F, (He.glo_ok X G (cd.fact 33 (f := .glo "_law_bent_rows") rfl))⟩)
    d__law_rows_right := (by obtain ⟨fd, F⟩ := cd.def_ 34 (d := fd_ "_law_rows_right" 48) rfl; exact ⟨_, fd, F, (He.glo_ok X G (cd.fact 34 (f := .glo "_law_rows_right") rfl))⟩)
    d__law_refused_right := (by obtain ⟨fd, F⟩ := cd.def_ 35 (d := fd_ "_law_refused_right" 49) rfl; exact ⟨_, fd, F, (He.glo_ok X G (cd.fact 35 (f := .glo "_law_refused_right") rfl))⟩)
    d__law_known_right := (by obtain ⟨fd, F⟩ := cd.def_ 36 (d := fd_ "_law_known_right" 50) rfl; exact ⟨_, fd, F, (He.glo_ok X G (cd.fact 36 (f := .glo "_law_known_right") rfl))⟩)
    d_law := (by obtain ⟨fd, F⟩ := cd.def_ 37 (d := fd_ "law" 51) rfl; exact ⟨_, fd, F, (He.glo_ok X G (cd.fact 37 (f := .glo "law") rfl))⟩)
    n_abs := (He.free_ok X G (cd.fact 43 (f := .free "abs") rfl))
    n_all := (He.free_ok X G (cd.fact 44 (f := .free "all") rfl))
    n_any := (He.free_ok X G (cd.fact 45 (f := .free "any") rfl))
    n_bool := (He.free_ok X G (cd.fact 46 (f := .free "bool") rfl))
    n_enumerate := (He.free_ok X G (cd.fact 47 (f := .free "enumerate") rfl))
    n_int := (He.free_ok X G (cd.fact 48 (f := .free "int") rfl))
    n_isinstance := (He.free_ok X G (cd.fact 49 (f := .free "isinstance") rfl))
    n_len := (He.free_ok X G (cd.fact 50 (f := .free "len") rfl))
    n_list := (He.free_ok X G (cd.fact 51 (f := .free "list") rfl))
    n_max := (He.free_ok X G (cd.fact 52 (f := .free "max") rfl))
    n_min := (He.free_ok X G (cd.fact 53 (f := .free "min") rfl))
    n_range := (He.free_ok X G (cd.fact 54 (f := .free "range") rfl))
    n_reversed := (He.free_ok X G (cd.fact 55 (f := .free "reversed") rfl))
    n_set := (He.free_ok X G (cd.fact 56 (f := .free "set") rfl))
    n_sorted := (He.free_ok X G (cd.fact 57 (f := .free "sorted") rfl))
    n_str := (He.free_ok X G (cd.fact 58 (f := .free "str") rfl))
    n_sum := (He.free_ok X G (cd.fact 59 (f := .free "sum") rfl))
    n_tuple := (He.free_ok X G (cd.fact 60 (f := .free "tuple") rfl))
    n_zip := (He.free_ok X G (cd.fact 61 (f := .free "zip") rfl))
    c_MOST_PERSONS := He.int_ok X G (cd.fact 63 (f := .int "MOST_PERSONS" 12) rfl)
    c_MOST_CARDS := He.int_ok X G (cd.fact 64 (f := .int "MOST_CARDS" 16) rfl)
    c_MOST_ROWS := He.int_ok X G (cd.fact 65 (f := .int "MOST_ROWS" 1000000) rfl)
    x_CardFault := (by obtain ⟨a1, a2, a3, a4⟩ := He.exc_ok (cd.fact 66 (f := .exc "CardFault") rfl); exact ⟨(He.glo_ok X G (cd.fact 38 (f := .glo "CardFault") rfl)), a1, a2, a3, a4⟩)
    x_BadHall := (by obtain ⟨a1, a2, a3, a4⟩ := He.exc_ok (cd.fact 67 (f := .exc "BadHall") rfl); exact ⟨(He.glo_ok X G (cd.fact 39 (f := .glo "BadHall") rfl)), a1, a2, a3, a4⟩)
    x_BadKnowing := (by obtain ⟨a1, a2, a3, a4⟩ := He.exc_ok (cd.fact 68 (f := .exc "BadKnowing") rfl); exact ⟨(He.glo_ok X G (cd.fact 40 (f := .glo "BadKnowing") rfl)), a1, a2, a3, a4⟩)
    x_BadPlayers := (by obtain ⟨a1, a2, a3, a4⟩ := He.exc_ok (cd.fact 69 (f := .exc "BadPlayers") rfl); exact ⟨(He.glo_ok X G (cd.fact 41 (f := .glo "BadPlayers") rfl)), a1, a2, a3, a4⟩)
    oex_BadRows := oex_BadRows_ X G c }
theorem lawAt (hm : ∀ ns : List Int, ns.length ≤ 63 → ∃ ws s1 s2, retLst (B__law_hand ns) [] = .ok (ws, s1) ∧ retD B_law ws = .ok (.bool true, s2)) (X : K.In h) (G : h.Ns mainGlobals mg) (c : He.SaysX fa fn [] tf ex w h K) {f : Addr} (hf : mg "law" = some (.ref f)) :
    LamX.LawAtS PySem.Challenge.rw_cardturns_k42_news_along_rows w K (L2.CX (PySem.Challenge.rw_cardturns_k42_news_along_rows).prog w) 12 63 "script" mg f h := by
  have cd := c.t.d
  obtain ⟨fd, F⟩ := cd.def_ 37 (d := fd_ "law" 51) rfl
  have e := hf.symm.trans (He.glo_ok X G (cd.fact 37 (f := .glo "law") rfl))
  cases e
  have b := FunD.bindsA (ps := ["script"]) F fun _ _ _ _ _ _ us hl => match us, hl with | [_], _ => rfl
  refine ⟨fd, tf.map (He.cT K), spLaw ⟨K, mg, TT K⟩ 63, fun p hp => ?_, fun p hp => ?_, fun p hp => ?_, fun s u => b s [u] rfl, fun H a ns hl _ hT hS => ⟨rfl, tabs_of fun p hp => ?_, a, ns, rfl, hS, hl, fun _ => rfl⟩, fun base kb nb TB => ok_law (txt X G c TB) hm F⟩
  · obtain ⟨q, hq, rfl⟩ := List.mem_map.mp hp
    exact c.empty q hq
  · obtain ⟨q, hq, rfl⟩ := List.mem_map.mp hp
    exact c.out q hq
  · obtain ⟨q, hq, rfl⟩ := List.mem_map.mp hp
    exact PySem.W.codeHd_of_K X (c.hd q hq)
  · simp only [TT, List.mem_cons, List.not_mem_nil, or_false] at hp
    rcases hp with rfl | rfl
    · exact hT _ (List.mem_map.mpr ⟨_, List.mem_of_getElem? (i := 0) rfl, rfl⟩)
    · exact hT _ (List.mem_map.mpr ⟨_, List.mem_of_getElem? (i := 1) rfl, rfl⟩)
end
end Law
end
section
set_option Elab.async false
set_option linter.all false
set_option maxRecDepth 100000
set_option maxHeartbeats 0
open PySem PySem.W PySem.Calls PyProof.Rows
theorem Law.holds_of (hm : ∀ ns : List Int, ns.length ≤ 63 → ∃ ws s1 s2, Sim.retLst (Law.B__law_hand ns) [] = .ok (ws, s1) ∧ Sim.retD Law.B_law ws = .ok (.bool true, s2)) : PySem.Challenge.rw_cardturns_k42_news_along_rows.Holds := by
  w_on; o_law
  refine HandSHeadRun.head_any (r := OpenLaw.row PySem.Challenge.rw_cardturns_k42_news_along_rows) (q := view (OpenLaw.row PySem.Challenge.rw_cardturns_k42_news_along_rows).prog [51]) (H := Law.hk) (ob := Law.ob) (M := 3000) (loose := Law.loose) (d := HandSHeadRun.topDef (OpenLaw.row PySem.Challenge.rw_cardturns_k42_news_along_rows).prog 51) (kwd := []) Law.ob_eq
    (by kernel_rfl) (fun s => by kernel_rfl) Law.run (by kernel_rfl) (by kernel_rfl) (by kernel_rfl) (by rfl) (by first | assumption | decide +kernel) (by decide +kernel) ⟨rfl, rfl, rfl, rfl, rfl, by decide +kernel⟩ ?hw ?hc
  case hw => w_witness2
  case hc =>
    refine LamX.walk_ofTsE (l := PySem.Challenge.rw_cardturns_k42_news_along_rows) (n := 63) (k := 12) (x := "script") (CX := fun w => L2.CX (PySem.Challenge.rw_cardturns_k42_news_along_rows).prog w) rfl (by decide) (by kernel_rfl) ⟨rfl, by decide, by decide⟩ ?F (fun w H s e s' z => ?hx)
    case F =>
      intro w mg fa h Y G hmg0
      obtain ⟨K, KX, c⟩ := Y
      have hmg : mg ("law" : PySem.Str) = some (.ref fa) := by
        have e : (HandSHeadRun.topDef (OpenLaw.row PySem.Challenge.rw_cardturns_k42_news_along_rows).prog 51).name = ("law" : PySem.Str) := by kernel_rfl
        rw [← e]
        exact hmg0
      exact ⟨K, KX, Law.lawAt hm KX G c hmg⟩
    case hx =>
      obtain ⟨_, _, _, _, _, _, _, _, _, _, _, _, z⟩ := z
      exact z
end
theorem PySem.Challenge.cw_cardturns_k42_news_along_rows_holds : PySem.Challenge.rw_cardturns_k42_news_along_rows.Holds :=
  Law.holds_of Law.law_ok
