import PyProof.Rows.All
import HandS.ForMost
import HandS.ForExc
import HandS.Walk
import HandS.Deep
import HandS.HeadHook2
import HandS.HeadHook4
import HandS.HeadWalk
import HandS.Style
import HandS.TupAny
import HandS.Codes
import HandS.StrMore
import HandS.ExcCtx
import HandS.Defaults
import KE.SortKeyHeap
import HandS.SortKw
import KE.GoesEnum
import PyProof.EnumMake
import HandS.Zip
import HandS.IsInst
import HandS.TupSets
import PyProof.TupleOfSeq
import PyProof.StrOps2
import HandS.SetFor
import HandS.ExcOwn
import HandS.Conv
import KE.KDictSum
import HandS.HeadEnd
import HandS.ExcIs
import HandS.HotCalls
import HandS.Small
import HandS.Strs
import HandS.Text
import HandS.RaiseMore
import PySem.Challenge.RW_faultmarks_k01_rules
import KE.KStateDown
import Lean
import HandS.Base
import HandS.Call
import HandS.Ends
import HandS.More
import HandS.Words
import HandS.WordsExc
import HandS.Head0
import HandS.Head1
import HandS.Head2
import HandS.HeadHook1
set_option Elab.async false
set_option linter.all false
set_option maxRecDepth 100000
set_option maxHeartbeats 4000000
/-! Fm, part 1: plain data over the abstract heap: D, ghosts, frames, representation, store of objects, slots. -/
namespace Fm
open PySem PySem.Spec L2
open PyProof.Rows hiding St

def lim : Nat := 5000000
theorem lim_le : lim ≤ sizeLine := by rw [sizeLine_eq]; decide
theorem lim_lt : lim < sizeLine := by rw [sizeLine_eq]; decide
theorem lim_low : lim ≤ 5592405 := by decide
theorem lim_mid : lim ≤ 16777216 := by decide

/-- plain data; obj i: the i-th object of the store; scr: the law's script -/
inductive D where
  | non | bl (b : Bool) | int (i : Int) | str (l : List Nat) | tup (ds : List D) | lst (ds : List D) | obj (i : Nat) | scr (ns : List Int)
  deriving Inhabited

/-- who may change what stands at an address -/
inductive Own where
  | lock | obj (i : Nat) | fld (i : Nat) (f : Str) | slot (i : Nat) | tmp
structure G where
  own : Addr → Option Own
  adr : Own → Addr

def LkL (K : PySem.W.Frag) (g : G) (H : Hp) (a : Addr) (vs : List V) : Prop := H a = some (.lst vs) ∧ g.own a = some .lock
/-- the script: a list that is locked, frozen, or of the module -/
def ScL (K : PySem.W.Frag) (g : G) (H : Hp) (a : Addr) (vs : List V) : Prop :=
  (H a = some (.lst vs) ∧ g.own a = some .lock) ∨ (∃ o, H a = some (.frz o (.lst vs))) ∨ ∀ H', SqL K H' a vs
def asc (l : List Nat) : Bool := l.all (· < 128)

mutual
def Rp (K : PySem.W.Frag) (g : G) (H : Hp) : D → V → Prop
  | .non, v => v = .non
  | .bl b, v => v = .bl b
  | .int i, v => v = .int i
  | .str l, v => v = .str ⟨l.toArray⟩ ∧ l.length ≤ lim ∧ asc l = true
  | .tup ds, v => ∃ a vs, v = .ref a ∧ H a = some (.tup vs) ∧ RpL K g H ds vs ∧ ds.length ≤ lim
  | .lst ds, v => ∃ a vs, v = .ref a ∧ LkL K g H a vs ∧ RpL K g H ds vs ∧ ds.length ≤ lim
  | .obj i, v => v = .ref (g.adr (.obj i)) ∧ g.own (g.adr (.obj i)) = some (.obj i) ∧ H (g.adr (.obj i)) ≠ none
  | .scr ns, v => ∃ a, v = .ref a ∧ ScL K g H a (ns.map V.int)
def RpL (K : PySem.W.Frag) (g : G) (H : Hp) : List D → List V → Prop
  | [], vs => vs = []
  | d :: ds, vs => ∃ v r, vs = v :: r ∧ Rp K g H d v ∧ RpL K g H ds r
end

/-- what every step keeps -/
structure GSt (g : G) (H : Hp) (g' : G) (H' : Hp) : Prop where
  own : ∀ a, H a ≠ none → g'.own a = g.own a
  adr : ∀ i, g.own (g.adr (.obj i)) = some (.obj i) → H (g.adr (.obj i)) ≠ none → g'.adr (.obj i) = g.adr (.obj i)
  tup : ∀ a xs, H a = some (.tup xs) → H' a = some (.tup xs)
  frz : ∀ a o u, H a = some (.frz o u) → H' a = some (.frz o u)
  lock : ∀ a, H a ≠ none → g.own a = some .lock → H' a = H a
  dom : ∀ a, H a ≠ none → H' a ≠ none
/-- what a call, an expression keeps: all but the store's objects -/
structure Fr (g : G) (H : Hp) (g' : G) (H' : Hp) : Prop extends GSt g H g' H' where
  slot : ∀ j, g'.adr (.slot j) = g.adr (.slot j)
  same : ∀ a o, H a = some o → (∀ i, g.own a ≠ some (.obj i)) → (∀ i f, g.own a ≠ some (.fld i f)) → H' a = some o
/-- pure: everything is kept -/
structure Ext (g : G) (H : Hp) (g' : G) (H' : Hp) : Prop where
  own : ∀ a, H a ≠ none → g'.own a = g.own a
  adr : g'.adr = g.adr
  same : ∀ a o, H a = some o → H' a = some o
  nob : ∀ a i, g'.own a = some (.obj i) → g.own a = some (.obj i)

section
variable {K : PySem.W.Frag} {g g1 g2 g3 : G} {H H1 H2 H3 : Hp}
theorem ne_some {a : Addr} {o : HO} (h : H a = some o) : H a ≠ none := by rw [h]; exact fun z => nomatch z
theorem GSt.refl : GSt g H g H := ⟨fun _ _ => rfl, fun _ _ _ => rfl, fun _ _ h => h, fun _ _ _ h => h, fun _ _ _ => rfl, fun _ h => h⟩
theorem GSt.trans (a : GSt g1 H1 g2 H2) (b : GSt g2 H2 g3 H3) : GSt g1 H1 g3 H3 where
  own := fun x h => (b.own x (a.dom x h)).trans (a.own x h)
  adr := fun i h1 h2 => by
    have e := a.adr i h1 h2
    have q : g2.own (g2.adr (.obj i)) = some (.obj i) := by rw [e, a.own _ h2]; exact h1
    have z : H2 (g2.adr (.obj i)) ≠ none := by rw [e]; exact a.dom _ h2
    rw [b.adr i q z, e]
  tup := fun x xs h => b.tup x xs (a.tup x xs h)
  frz := fun x o u h => b.frz x o u (a.frz x o u h)
  lock := fun x h1 h2 => by rw [b.lock x (a.dom x h1) (by rw [a.own x h1]; exact h2), a.lock x h1 h2]
  dom := fun x h => b.dom x (a.dom x h)
theorem Fr.refl : Fr g H g H := ⟨GSt.refl, fun _ => rfl, fun _ _ h _ _ => h⟩
theorem Fr.trans (a : Fr g1 H1 g2 H2) (b : Fr g2 H2 g3 H3) : Fr g1 H1 g3 H3 where
  toGSt := a.toGSt.trans b.toGSt
  slot := fun j => (b.slot j).trans (a.slot j)
  same := fun x o h h1 h2 => b.same x o (a.same x o h h1 h2) (by rw [a.own x (ne_some h)]; exact h1) (by rw [a.own x (ne_some h)]; exact h2)
theorem Ext.refl : Ext g H g H := ⟨fun _ _ => rfl, rfl, fun _ _ h => h, fun _ _ h => h⟩
theorem Ext.dom (e : Ext g1 H1 g2 H2) {a : Addr} (h : H1 a ≠ none) : H2 a ≠ none := by
  cases q : H1 a with
  | none => exact absurd q h
  | some o => rw [e.same a o q]; exact fun z => nomatch z
theorem Ext.get (e : Ext g1 H1 g2 H2) {a : Addr} (h : H1 a ≠ none) : H2 a = H1 a := by
  cases q : H1 a with
  | none => exact absurd q h
  | some o => exact e.same a o q
theorem Ext.trans (a : Ext g1 H1 g2 H2) (b : Ext g2 H2 g3 H3) : Ext g1 H1 g3 H3 :=
  ⟨fun x h => (b.own x (a.dom h)).trans (a.own x h), b.adr.trans a.adr, fun x o h => b.same x o (a.same x o h), fun x i h => a.nob x i (b.nob x i h)⟩
theorem Ext.fr (e : Ext g1 H1 g2 H2) : Fr g1 H1 g2 H2 where
  own := e.own
  adr := fun _ _ _ => by rw [e.adr]
  tup := fun _ _ h => e.same _ _ h
  frz := fun _ _ _ h => e.same _ _ h
  lock := fun _ h _ => e.get h
  dom := fun _ h => e.dom h
  slot := fun _ => by rw [e.adr]
  same := fun _ _ h _ _ => e.same _ _ h
/-- a new object -/
theorem Ext.new {p : Addr} {o : HO} (h : H p = none) : Ext g H g (upd H p o) := ⟨fun _ _ => rfl, rfl, fun a u e => by rw [upd_ne (ne_of_none e h)]; exact e, fun _ _ z => z⟩
def G.put (g : G) (p : Addr) (o : Own) : G := { g with own := fun b => if b = p then some o else g.own b }
theorem G.put_same {p : Addr} {o : Own} : (g.put p o).own p = some o := if_pos rfl
theorem G.put_ne {p b : Addr} {o : Own} (h : b ≠ p) : (g.put p o).own b = g.own b := if_neg h
theorem put_nob {p : Addr} {w : Own} (hw : ∀ i, w ≠ .obj i) : ∀ a i, (g.put p w).own a = some (.obj i) → g.own a = some (.obj i) := fun a i e => by
  by_cases hb : a = p
  · subst hb
    rw [G.put_same] at e
    exact absurd (Option.some.inj e) (hw i)
  · rw [G.put_ne hb] at e
    exact e
theorem Ext.newL {p : Addr} {o : HO} (w : Own) (h : H p = none) (hw : ∀ i, w ≠ .obj i := by intro i z; cases z) : Ext g H (g.put p w) (upd H p o) :=
  ⟨fun a e => G.put_ne (by rintro rfl; exact e h), rfl, fun a u e => by rw [upd_ne (ne_of_none e h)]; exact e, put_nob hw⟩
/-- a mark at an address that is not known yet -/
theorem Ext.mark {p : Addr} (w : Own) (h : H p = none) (e : Ext g H g H1) (hw : ∀ i, w ≠ .obj i := by intro i z; cases z) : Ext g H (g.put p w) H1 :=
  ⟨fun a e => G.put_ne (by rintro rfl; exact e h), rfl, e.same, put_nob hw⟩

theorem SqT.step (s : GSt g1 H1 g2 H2) {a : Addr} {vs : List V} (h : SqT K H1 a vs) : SqT K H2 a vs := by
  rcases h with (h | ⟨o, h⟩) | h
  · exact .inl (.inl (s.tup a vs h))
  · exact .inl (.inr ⟨o, s.frz a o _ h⟩)
  · exact .inr h
theorem LkL.step (s : GSt g1 H1 g2 H2) {a : Addr} {vs : List V} (h : LkL K g1 H1 a vs) : LkL K g2 H2 a vs :=
  ⟨by rw [s.lock a (ne_some h.1) h.2]; exact h.1, by rw [s.own a (ne_some h.1)]; exact h.2⟩
theorem LkL.seq {a : Addr} {vs : List V} (h : LkL K g H a vs) : SqL K H a vs := SqL.of h.1
theorem ScL.step (s : GSt g1 H1 g2 H2) {a : Addr} {vs : List V} (h : ScL K g1 H1 a vs) : ScL K g2 H2 a vs := by
  rcases h with ⟨h, l⟩ | ⟨o, h⟩ | h
  · exact .inl ⟨by rw [s.lock a (ne_some h) l]; exact h, by rw [s.own a (ne_some h)]; exact l⟩
  · exact .inr (.inl ⟨o, s.frz a o _ h⟩)
  · exact .inr (.inr h)
theorem ScL.seq {a : Addr} {vs : List V} (h : ScL K g H a vs) : SqL K H a vs := by
  rcases h with ⟨h, _⟩ | ⟨o, h⟩ | h
  · exact SqL.of h
  · exact .inl (.inr ⟨o, h⟩)
  · exact h H
mutual
theorem Rp.step (s : GSt g1 H1 g2 H2) : ∀ (d : D) (v : V), Rp K g1 H1 d v → Rp K g2 H2 d v
  | .non, _, h => by simpa only [Rp] using h
  | .bl b, _, h => by simpa only [Rp] using h
  | .int i, _, h => by simpa only [Rp] using h
  | .str l, _, h => by simpa only [Rp] using h
  | .tup ds, v, h => by
    simp only [Rp] at h ⊢
    obtain ⟨a, vs, e, q, r, z⟩ := h
    exact ⟨a, vs, e, s.tup a vs q, RpL.step s ds vs r, z⟩
  | .lst ds, v, h => by
    simp only [Rp] at h ⊢
    obtain ⟨a, vs, e, q, r, z⟩ := h
    exact ⟨a, vs, e, LkL.step s q, RpL.step s ds vs r, z⟩
  | .obj i, v, h => by
    simp only [Rp] at h ⊢
    obtain ⟨e, o, n⟩ := h
    have q := s.adr i o n
    rw [q]
    exact ⟨e, by rw [s.own _ n]; exact o, s.dom _ n⟩
  | .scr ns, v, h => by
    simp only [Rp] at h ⊢
    obtain ⟨a, e, q⟩ := h
    exact ⟨a, e, ScL.step s q⟩
theorem RpL.step (s : GSt g1 H1 g2 H2) : ∀ (ds : List D) (vs : List V), RpL K g1 H1 ds vs → RpL K g2 H2 ds vs
  | [], _, h => by simpa only [RpL] using h
  | d :: ds, vs, h => by
    simp only [RpL] at h ⊢
    obtain ⟨v, r, e, h1, h2⟩ := h
    exact ⟨v, r, e, Rp.step s d v h1, RpL.step s ds r h2⟩
end
theorem RpL.length : ∀ {ds : List D} {vs : List V}, RpL K g H ds vs → vs.length = ds.length
  | [], _, h => by simp only [RpL] at h; subst h; rfl
  | d :: ds, vs, h => by
    simp only [RpL] at h
    obtain ⟨v, r, rfl, _, h2⟩ := h
    simp only [List.length_cons, RpL.length h2]
theorem RpL.nil : RpL K g H [] [] := by simp only [RpL]
theorem RpL.cons {d : D} {ds : List D} {v : V} {vs : List V} (h : Rp K g H d v) (r : RpL K g H ds vs) : RpL K g H (d :: ds) (v :: vs) := by
  simp only [RpL]
  exact ⟨v, vs, rfl, h, r⟩
theorem RpL.get : ∀ {ds : List D} {vs : List V}, RpL K g H ds vs → ∀ {i : Nat} {d : D}, ds[i]? = some d → ∃ v, vs[i]? = some v ∧ Rp K g H d v
  | [], _, _, _, _, e => by simp at e
  | d :: ds, vs, h, 0, d', e => by
    simp only [RpL] at h
    obtain ⟨v, r, rfl, h1, h2⟩ := h
    simp at e
    subst e
    exact ⟨v, rfl, h1⟩
  | d :: ds, vs, h, i + 1, d', e => by
    simp only [RpL] at h
    obtain ⟨v, r, rfl, h1, h2⟩ := h
    obtain ⟨w, q1, q2⟩ := RpL.get h2 (i := i) (d := d') (by simpa using e)
    exact ⟨w, by simpa using q1, q2⟩
theorem RpL.getV : ∀ {ds : List D} {vs : List V}, RpL K g H ds vs → ∀ {i : Nat} {v : V}, vs[i]? = some v → ∃ d, ds[i]? = some d ∧ Rp K g H d v := fun {ds vs} h {i v} e => by
  have hl := h.length
  obtain ⟨hi, _⟩ := List.getElem?_eq_some_iff.mp e
  have hd : ds[i]? = some (ds[i]'(by omega)) := List.getElem?_eq_getElem _
  obtain ⟨w, q1, q2⟩ := h.get hd
  rw [e] at q1
  cases q1
  exact ⟨_, hd, q2⟩
theorem RpL.append : ∀ {ds es : List D} {vs ws : List V}, RpL K g H ds vs → RpL K g H es ws → RpL K g H (ds ++ es) (vs ++ ws)
  | [], _, _, _, h, q => by simp only [RpL] at h; subst h; exact q
  | d :: ds, es, vs, ws, h, q => by
    simp only [RpL] at h
    obtain ⟨v, r, rfl, h1, h2⟩ := h
    exact RpL.cons h1 (RpL.append h2 q)
theorem RpL.take : ∀ {ds : List D} {vs : List V} (n : Nat), RpL K g H ds vs → RpL K g H (ds.take n) (vs.take n)
  | _, _, 0, _ => by simp only [List.take_zero]; exact RpL.nil
  | [], _, _ + 1, h => by simp only [RpL] at h; subst h; exact RpL.nil
  | d :: ds, vs, n + 1, h => by
    simp only [RpL] at h
    obtain ⟨v, r, rfl, h1, h2⟩ := h
    exact RpL.cons h1 (RpL.take n h2)
theorem RpL.drop : ∀ {ds : List D} {vs : List V} (n : Nat), RpL K g H ds vs → RpL K g H (ds.drop n) (vs.drop n)
  | _, _, 0, h => h
  | [], _, _ + 1, h => by simp only [RpL] at h; subst h; exact RpL.nil
  | d :: ds, vs, n + 1, h => by
    simp only [RpL] at h
    obtain ⟨v, r, rfl, h1, h2⟩ := h
    exact RpL.drop n h2
theorem RpL.reverse : ∀ {ds : List D} {vs : List V}, RpL K g H ds vs → RpL K g H ds.reverse vs.reverse
  | [], _, h => by simp only [RpL] at h; subst h; exact RpL.nil
  | d :: ds, vs, h => by
    simp only [RpL] at h
    obtain ⟨v, r, rfl, h1, h2⟩ := h
    rw [List.reverse_cons, List.reverse_cons]
    exact (RpL.reverse h2).append (RpL.cons h1 RpL.nil)
theorem RpL.set : ∀ {ds : List D} {vs : List V} (i : Nat) {d : D} {v : V}, RpL K g H ds vs → Rp K g H d v → RpL K g H (ds.set i d) (vs.set i v)
  | [], _, _, _, _, h, _ => by simp only [RpL] at h; subst h; exact RpL.nil
  | d :: ds, vs, 0, _, _, h, q => by
    simp only [RpL] at h
    obtain ⟨v, r, rfl, h1, h2⟩ := h
    exact RpL.cons q h2
  | d :: ds, vs, i + 1, _, _, h, q => by
    simp only [RpL] at h
    obtain ⟨v, r, rfl, h1, h2⟩ := h
    exact RpL.cons h1 (RpL.set i h2 q)
end

/-! ### the store of objects -/
inductive Fd where
  | val (d : D) | own (ds : List D)
/-- an instance of the class that the module calls c; a dict with text keys; the lambda's table; a list that may be changed -/
inductive ObjS where
  | ins (c : Str) (fs : List (Str × Fd)) | dk (fs : List (Str × Fd)) | tab | ls (ds : List D) | tp (ds : List D)
abbrev Om := List ObjS

def FdR (K : PySem.W.Frag) (g : G) (H : Hp) (i : Nat) (f : Str) : Fd → V → Prop
  | .val d, v => Rp K g H d v
  | .own ds, v => v = .ref (g.adr (.fld i f)) ∧ g.own (g.adr (.fld i f)) = some (.fld i f) ∧ ∃ vs, H (g.adr (.fld i f)) = some (.lst vs) ∧ RpL K g H ds vs ∧ ds.length ≤ lim
def FdsR (K : PySem.W.Frag) (g : G) (H : Hp) (i : Nat) : List (Str × Fd) → List (Str × V) → Prop
  | [], vs => vs = []
  | (f, d) :: fs, vs => ∃ v r, vs = (f, v) :: r ∧ FdR K g H i f d v ∧ FdsR K g H i fs r
/-- the table of the one def whose body makes a lambda; the name that the lambda bears -/
def lamTab (K : PySem.W.Frag) : Addr := (He.cT K ("all_marks", none)).2
def lamName : Str := Str.ofString "all_marks.<locals>.<lambda>"
def TabR (K : PySem.W.Frag) (g : G) (H : Hp) (P : Addr) : Prop := P = lamTab K ∧ ∃ ps : Array Value, H P = some (.tbl ps) ∧ TriplesOk ps.toList ∧ ∀ (pos : Pos) (cv : Value), codeAmong pos ps.toList = some cv → ∃ c, cv = .ref c ∧ H c = some (LamX.CodeO c lamName) ∧ g.own c = some .lock
def ObR (K : PySem.W.Frag) (g : G) (H : Hp) (i : Nat) : ObjS → Prop
  | .tab => TabR K g H (g.adr (.obj i))
  | .ins c fs => ∃ dx vs, H (g.adr (.obj i)) = some (.ins (He.ga K c) dx vs) ∧ FdsR K g H i fs vs ∧ (fs.map (·.1)).Nodup ∧ fs.length < 900
  | .dk fs => ∃ vs : List (Str × V), H (g.adr (.obj i)) = some (.dK (vs.map fun p => ((.inr p.1 : Key), p.2))) ∧ FdsR K g H i fs vs ∧ (fs.map (·.1)).Nodup ∧ fs.length < 900
  | .ls ds => ∃ vs, H (g.adr (.obj i)) = some (.lst vs) ∧ RpL K g H ds vs ∧ ds.length ≤ lim
  | .tp ds => ∃ vs ob, H (g.adr (.obj i)) = some (.frz ob (.tup vs)) ∧ ob.dict = none ∧ RpL K g H ds vs ∧ ds.length ≤ lim
structure Ob (K : PySem.W.Frag) (g : G) (H : Hp) (Ω : Om) : Prop where
  at_ : ∀ i o, Ω[i]? = some o → g.own (g.adr (.obj i)) = some (.obj i) ∧ ObR K g H i o
  lt : ∀ a i, g.own a = some (.obj i) → i < Ω.length

/-! ### slots -/
inductive Slot where
  | un | val (d : D) | own (ds : List D) | dct (kvs : List (List Int × D)) | raw (a : Addr)
abbrev Env1 := List Slot

def kvT (kvs : List (List Int × D)) (vs : List V) : List (List Key × V) := (kvs.zip vs).map fun p => (p.1.1.map Sum.inl, p.2)
def SlR (K : PySem.W.Frag) (g : G) (H : Hp) (i : Nat) : Slot → Option V → Prop
  | .un, _ => True
  | .val d, o => ∃ v, o = some v ∧ Rp K g H d v
  | .own ds, o => o = some (.ref (g.adr (.slot i))) ∧ g.own (g.adr (.slot i)) = some (.slot i) ∧ ∃ vs, H (g.adr (.slot i)) = some (.lst vs) ∧ RpL K g H ds vs ∧ ds.length ≤ lim
  | .raw a, o => o = some (.ref a)
  | .dct kvs, o => o = some (.ref (g.adr (.slot i))) ∧ g.own (g.adr (.slot i)) = some (.slot i) ∧ ∃ vs, H (g.adr (.slot i)) = some (.dT (kvT kvs vs)) ∧ RpL K g H (kvs.map (·.2)) vs ∧ kvs.length ≤ lim
def Sl (K : PySem.W.Frag) (g : G) (H : Hp) (ρ : Env1) (σ : St) : Prop :=
  ρ.length = σ.length ∧ ∀ i s, ρ[i]? = some s → ∃ o, σ[i]? = some o ∧ SlR K g H i s o

section
variable {K : PySem.W.Frag} {g g1 g2 g3 : G} {H H1 H2 H3 : Hp}
theorem FdR.ext (e : Ext g1 H1 g2 H2) {i : Nat} {f : Str} : ∀ {d : Fd} {v : V}, FdR K g1 H1 i f d v → FdR K g2 H2 i f d v
  | .val d, v, h => Rp.step e.fr.toGSt d v h
  | .own ds, v, h => by
    obtain ⟨e1, o, vs, hh, r, z⟩ := h
    rw [← e.adr] at e1 o hh
    refine ⟨e1, ?_, vs, e.same _ _ hh, RpL.step e.fr.toGSt ds vs r, z⟩
    rw [e.own _ (ne_some hh)]
    exact o
theorem FdsR.ext (e : Ext g1 H1 g2 H2) {i : Nat} : ∀ {fs : List (Str × Fd)} {vs : List (Str × V)}, FdsR K g1 H1 i fs vs → FdsR K g2 H2 i fs vs
  | [], _, h => h
  | (f, d) :: fs, vs, h => by
    obtain ⟨v, r, e1, h1, h2⟩ := h
    exact ⟨v, r, e1, h1.ext e, FdsR.ext e h2⟩
theorem TabR.ext (e : Ext g1 H1 g2 H2) {P : Addr} (h : TabR K g1 H1 P) : TabR K g2 H2 P := by
  obtain ⟨h0, ps, h1, h2, h3⟩ := h
  refine ⟨h0, ps, e.same _ _ h1, h2, fun pos cv q => ?_⟩
  obtain ⟨c, e1, e2, e3⟩ := h3 pos cv q
  exact ⟨c, e1, e.same _ _ e2, by rw [e.own _ (ne_some e2)]; exact e3⟩
theorem ObR.ext (e : Ext g1 H1 g2 H2) {i : Nat} : ∀ {o : ObjS}, ObR K g1 H1 i o → ObR K g2 H2 i o
  | .tab, h => by
    show TabR K g2 H2 (g2.adr (.obj i))
    rw [e.adr]
    exact TabR.ext e h
  | .ins c fs, h => by
    obtain ⟨dx, vs, h1, h2, h3⟩ := h
    exact ⟨dx, vs, e.same _ _ (by rw [e.adr]; exact h1), h2.ext e, h3⟩
  | .dk fs, h => by
    obtain ⟨vs, h1, h2, h3⟩ := h
    exact ⟨vs, e.same _ _ (by rw [e.adr]; exact h1), h2.ext e, h3⟩
  | .ls ds, h => by
    obtain ⟨vs, h1, h2, h3⟩ := h
    exact ⟨vs, e.same _ _ (by rw [e.adr]; exact h1), RpL.step e.fr.toGSt _ _ h2, h3⟩
  | .tp ds, h => by
    obtain ⟨vs, ob, h1, h0, h2, h3⟩ := h
    exact ⟨vs, ob, e.same _ _ (by rw [e.adr]; exact h1), h0, RpL.step e.fr.toGSt _ _ h2, h3⟩
theorem ObR.there {i : Nat} : ∀ {o : ObjS}, ObR K g H i o → H (g.adr (.obj i)) ≠ none
  | .tab, h => by
    obtain ⟨_, _, h1, _⟩ := h
    exact ne_some h1
  | .ins _ _, h => by
    obtain ⟨_, _, h1, _⟩ := h
    exact ne_some h1
  | .dk _, h => by
    obtain ⟨_, h1, _⟩ := h
    exact ne_some h1
  | .ls _, h => by
    obtain ⟨_, h1, _⟩ := h
    exact ne_some h1
  | .tp _, h => by
    obtain ⟨_, _, h1, _⟩ := h
    exact ne_some h1
theorem Ob.ext (e : Ext g1 H1 g2 H2) {Ω : Om} (h : Ob K g1 H1 Ω) : Ob K g2 H2 Ω where
  at_ := fun i o q => by
    obtain ⟨h1, h2⟩ := h.at_ i o q
    refine ⟨?_, h2.ext e⟩
    rw [e.adr, e.own _ h2.there]
    exact h1
  lt := fun a i q => h.lt a i (e.nob a i q)
theorem Ob.live {Ω : Om} (h : Ob K g H Ω) {i : Nat} {o : ObjS} (q : Ω[i]? = some o) : Rp K g H (.obj i) (.ref (g.adr (.obj i))) := by
  simp only [Rp, true_and]
  exact ⟨(h.at_ i o q).1, (h.at_ i o q).2.there⟩
theorem SlR.fr (e : Fr g1 H1 g2 H2) {i : Nat} : ∀ {s : Slot} {o : Option V}, SlR K g1 H1 i s o → SlR K g2 H2 i s o
  | .un, _, _ => trivial
  | .val d, o, h => by
    obtain ⟨v, e1, r⟩ := h
    exact ⟨v, e1, Rp.step e.toGSt d v r⟩
  | .own ds, o, h => by
    obtain ⟨e1, w, vs, hh, r, z⟩ := h
    rw [← e.slot] at e1 w hh
    refine ⟨e1, ?_, vs, e.same _ _ hh (by rw [w]; exact fun _ z => nomatch z) (by rw [w]; exact fun _ _ z => nomatch z), RpL.step e.toGSt ds vs r, z⟩
    rw [e.own _ (ne_some hh)]
    exact w
  | .raw _, _, h => h
  | .dct kvs, o, h => by
    obtain ⟨e1, w, vs, hh, r, z⟩ := h
    rw [← e.slot] at e1 w hh
    refine ⟨e1, ?_, vs, e.same _ _ hh (by rw [w]; exact fun _ z => nomatch z) (by rw [w]; exact fun _ _ z => nomatch z), RpL.step e.toGSt _ vs r, z⟩
    rw [e.own _ (ne_some hh)]
    exact w
theorem Sl.fr (e : Fr g1 H1 g2 H2) {ρ : Env1} {σ : St} (h : Sl K g1 H1 ρ σ) : Sl K g2 H2 ρ σ := ⟨h.1, fun i s q => by
  obtain ⟨o, q1, q2⟩ := h.2 i s q
  exact ⟨o, q1, q2.fr e⟩⟩
theorem Sl.get {ρ : Env1} {σ : St} (h : Sl K g H ρ σ) {i : Nat} {d : D} (e : ρ[i]? = some (.val d)) : ∃ v, σ[i]? = some (some v) ∧ Rp K g H d v := by
  obtain ⟨o, q1, v, rfl, r⟩ := h.2 i _ e
  exact ⟨v, q1, r⟩
theorem Sl.set {ρ : Env1} {σ : St} (h : Sl K g H ρ σ) (i : Nat) {d : D} {v : V} (r : Rp K g H d v) : Sl K g H (ρ.set i (.val d)) (σ.set i (some v)) := by
  refine ⟨by simp [h.1], fun j s e => ?_⟩
  by_cases hj : i = j
  · subst hj
    rw [List.getElem?_set_self'] at e
    cases q : ρ[i]? with
    | none => rw [q] at e; simp at e
    | some s0 =>
      rw [q] at e
      simp at e
      subst e
      have hl : i < σ.length := by
        rw [← h.1]
        exact (List.getElem?_eq_some_iff.mp q).1
      exact ⟨some v, by rw [List.getElem?_set_self hl], v, rfl, r⟩
  · rw [List.getElem?_set_ne hj] at e ⊢
    exact h.2 j s e
theorem Sl.set_un {ρ : Env1} {σ : St} (h : Sl K g H ρ σ) (i : Nat) (o : Option V) : Sl K g H (ρ.set i .un) (σ.set i o) := by
  refine ⟨by simp [h.1], fun j s e => ?_⟩
  by_cases hj : i = j
  · subst hj
    rw [List.getElem?_set_self'] at e
    cases q : ρ[i]? with
    | none => rw [q] at e; simp at e
    | some s0 =>
      rw [q] at e
      simp at e
      subst e
      have hl : i < σ.length := by
        rw [← h.1]
        exact (List.getElem?_eq_some_iff.mp q).1
      exact ⟨o, by rw [List.getElem?_set_self hl], trivial⟩
  · rw [List.getElem?_set_ne hj] at e ⊢
    exact h.2 j s e
end
end Fm
/-! Fm, part 2: results, denotations of expressions, what a reading gives at the data level. -/
namespace Fm
open PySem PySem.Spec L2
open PyProof.Rows hiding St

/-- what a piece of code comes to: a value and the store, an exception of the module's class n, or nothing that is told -/
inductive Res (α : Type) where
  | ok (a : α) (Ω : Om) | exc (n : Str) (Ω : Om) | bad
def Res.bind {α β : Type} (r : Res α) (f : α → Om → Res β) : Res β := match r with
  | .ok a Ω => f a Ω
  | .exc n Ω => .exc n Ω
  | .bad => .bad
theorem Res.bind_ok {α β : Type} {a : α} {Ω : Om} {f : α → Om → Res β} : (Res.ok a Ω).bind f = f a Ω := rfl
theorem Res.bind_exc {α β : Type} {n : Str} {Ω : Om} {f : α → Om → Res β} : (Res.exc n Ω : Res α).bind f = .exc n Ω := rfl
theorem Res.bind_bad {α β : Type} {f : α → Om → Res β} : (Res.bad : Res α).bind f = .bad := rfl
def lift {α : Type} (o : Option α) (Ω : Om) : Res α := match o with
  | some a => .ok a Ω
  | none => .bad
theorem lift_some {α : Type} {a : α} {Ω : Om} : lift (some a) Ω = .ok a Ω := rfl

abbrev DE := Env1 → Om → Res D
abbrev DT := Env1 → Om → Res Bool
abbrev DA := Env1 → Om → Res (List D)

/-- what must be shown of a result -/
def Pst (K : PySem.W.Frag) (E : XK) (g : G) (H : Hp) {α β : Type} (rep : G → Hp → α → β → Prop) (Q : β → Hp → Prop) : Res α → Prop
  | .ok a Ω' => ∀ g' H' b, Fr g H g' H' → Ob K g' H' Ω' → rep g' H' a b → Q b H'
  | .exc n Ω' => ∀ g' H', Fr g H g' H' → Ob K g' H' Ω' → E (.ref (He.ga K n)) none H'
  | .bad => False
theorem Pst.fr {K : PySem.W.Frag} {E : XK} {g g1 : G} {H H1 : Hp} {α β : Type} {rep : G → Hp → α → β → Prop} {Q : β → Hp → Prop} (f : Fr g H g1 H1) : ∀ {r : Res α}, Pst K E g H rep Q r → Pst K E g1 H1 rep Q r
  | .ok _ _, h => fun g' H' b f' o r => h g' H' b (f.trans f') o r
  | .exc _ _, h => fun g' H' f' o => h g' H' (f.trans f') o
  | .bad, h => h
theorem Pst.bind {K : PySem.W.Frag} {E : XK} {g : G} {H : Hp} {α β γ δ : Type} {rep : G → Hp → γ → δ → Prop} {Q : δ → Hp → Prop} {rep1 : G → Hp → α → β → Prop} {Q1 : β → Hp → Prop} {f : α → Om → Res γ} :
    ∀ {r : Res α}, Pst K E g H rep Q (r.bind f) → (∀ x Ω1 g1 H1 b, Fr g H g1 H1 → Ob K g1 H1 Ω1 → rep1 g1 H1 x b → Pst K E g1 H1 rep Q (f x Ω1) → Q1 b H1) → Pst K E g H rep1 Q1 r
  | .ok a Ω1, h, k => fun g1 H1 b f1 o r => k a Ω1 g1 H1 b f1 o r (Pst.fr f1 h)
  | .exc _ _, h, _ => h
  | .bad, h, _ => h
/-- a pure end -/
def PstX (K : PySem.W.Frag) (g : G) (H : Hp) {α β : Type} (rep : G → Hp → α → β → Prop) (Q : β → Hp → Prop) : Option α → Prop
  | some a => ∀ g' H' b, Ext g H g' H' → rep g' H' a b → Q b H'
  | none => False
theorem Pst.pure {K : PySem.W.Frag} {E : XK} {g : G} {H : Hp} {α β : Type} {rep : G → Hp → α → β → Prop} {Q : β → Hp → Prop} {Ω : Om} (o : Ob K g H Ω) : ∀ {r : Option α}, Pst K E g H rep Q (lift r Ω) → PstX K g H rep Q r
  | some _, h => fun g' H' b e r => h g' H' b e.fr (o.ext e) r
  | none, h => h

def TD (K : PySem.W.Frag) (E : XK) (te : TE) (de : DE) : Prop := ∀ g H Ω ρ σ Q, Sl K g H ρ σ → Ob K g H Ω → Pst K E g H (Rp K) Q (de ρ Ω) → te σ H Q
def TDT (K : PySem.W.Frag) (E : XK) (tt : TT) (dt : DT) : Prop := ∀ g H Ω ρ σ Q, Sl K g H ρ σ → Ob K g H Ω → Pst K E g H (fun _ _ (a b : Bool) => b = a) Q (dt ρ Ω) → tt σ H Q
def TDA (K : PySem.W.Frag) (E : XK) (ta : TA) (da : DA) : Prop := ∀ g H Ω ρ σ Q, Sl K g H ρ σ → Ob K g H Ω → Pst K E g H (RpL K) Q (da ρ Ω) → ta σ H Q

structure PD (X : Cx) (K : PySem.W.Frag) (E : XK) (e : Expr) (te : TE) (de : DE) : Prop where
  k : X.K = K
  pe : PE X e te
  td : TD K E te de
structure PDT (X : Cx) (K : PySem.W.Frag) (E : XK) (e : Expr) (tt : TT) (dt : DT) : Prop where
  k : X.K = K
  pt : PT X e tt
  td : TDT K E tt dt
structure PDA (X : Cx) (K : PySem.W.Frag) (E : XK) (es : List Expr) (ta : TA) (da : DA) : Prop where
  k : X.K = K
  pa : PA X es ta
  td : TDA K E ta da

/-! ### the readings' lemmas -/
section
variable {K : PySem.W.Frag} {E : XK} {ta tb tc : TE} {da db dc : DE} {tt tu : TT} {dt du : DT} {tas : TA} {das : DA}
theorem RpL.one {g : G} {H : Hp} {d : D} {vs : List V} (h : RpL K g H [d] vs) : ∃ v, vs = [v] ∧ Rp K g H d v := by
  simp only [RpL] at h
  obtain ⟨v, r, rfl, h1, rfl⟩ := h
  exact ⟨v, rfl, h1⟩
theorem RpL.two {g : G} {H : Hp} {d e : D} {vs : List V} (h : RpL K g H [d, e] vs) : ∃ v w, vs = [v, w] ∧ Rp K g H d v ∧ Rp K g H e w := by
  simp only [RpL] at h
  obtain ⟨v, r, rfl, h1, w, r2, rfl, h2, rfl⟩ := h
  exact ⟨v, w, rfl, h1, h2⟩

def dVar (i : Nat) : DE := fun ρ Ω => match ρ[i]? with
  | some (.val d) => .ok d Ω
  | _ => .bad
theorem td_var (i : Nat) : TD K E (tVar i) (dVar i) := fun g H Ω ρ σ Q S O h => by
  unfold dVar at h
  cases e : ρ[i]? with
  | none => rw [e] at h; exact h.elim
  | some s =>
    rw [e] at h
    cases s with
    | val d =>
      obtain ⟨v, q, r⟩ := S.get e
      exact ⟨v, q, h g H v Fr.refl O r⟩
    | _ => exact h.elim
def dC (d : D) : DE := fun _ Ω => .ok d Ω
theorem td_c {d : D} {v : V} (r : ∀ g H, Rp K g H d v) : TD K E (tC v) (dC d) := fun g H Ω ρ σ Q S O h => h g H v Fr.refl O (r g H)

/-- what a two-place operation gives -/
def RD2 (K : PySem.W.Frag) (r : R2) (f : D → D → Option D) : Prop := ∀ g H x y v w Q, Rp K g H x v → Rp K g H y w → PstX K g H (Rp K) Q (f x y) → r v w H Q
def dOp (f : D → D → Option D) (da db : DE) : DE := fun ρ Ω => (da ρ Ω).bind fun x Ω1 => (db ρ Ω1).bind fun y Ω2 => lift (f x y) Ω2
theorem td_op {r : R2} {f : D → D → Option D} (hr : RD2 K r f) (ha : TD K E ta da) (hb : TD K E tb db) : TD K E (tOp r ta tb) (dOp f da db) := fun g H Ω ρ σ Q S O h =>
  ha g H Ω ρ σ _ S O (Pst.bind h fun x Ω1 g1 H1 v f1 O1 r1 h1 =>
    hb g1 H1 Ω1 ρ σ _ (S.fr f1) O1 (Pst.bind h1 fun y Ω2 g2 H2 w f2 O2 r2 h2 =>
      hr g2 H2 x y v w Q (Rp.step f2.toGSt _ _ r1) r2 (Pst.pure O2 h2)))
def RD1 (K : PySem.W.Frag) (r : V → Hp → VK → Prop) (f : D → Option D) : Prop := ∀ g H x v Q, Rp K g H x v → PstX K g H (Rp K) Q (f x) → r v H Q
def dUn (f : D → Option D) (da : DE) : DE := fun ρ Ω => (da ρ Ω).bind fun x Ω1 => lift (f x) Ω1
theorem td_un {r : V → Hp → VK → Prop} {f : D → Option D} (hr : RD1 K r f) (ha : TD K E ta da) : TD K E (tUn r ta) (dUn f da) := fun g H Ω ρ σ Q S O h =>
  ha g H Ω ρ σ _ S O (Pst.bind h fun x Ω1 g1 H1 v f1 O1 r1 h1 => hr g1 H1 x v Q r1 (Pst.pure O1 h1))
/-- a call of a built-in on values -/
def RDC (K : PySem.W.Frag) (r : List V → Hp → VK → Prop) (f : List D → Option D) : Prop := ∀ g H xs vs Q, RpL K g H xs vs → PstX K g H (Rp K) Q (f xs) → r vs H Q
def dCB (f : List D → Option D) (da : DA) : DE := fun ρ Ω => (da ρ Ω).bind fun x Ω1 => lift (f x) Ω1
theorem td_cb {r : List V → Hp → VK → Prop} {f : List D → Option D} (hr : RDC K r f) (ha : TDA K E tas das) : TD K E (tCB r tas) (dCB f das) := fun g H Ω ρ σ Q S O h =>
  ha g H Ω ρ σ _ S O (Pst.bind h fun x Ω1 g1 H1 v f1 O1 r1 h1 => hr g1 H1 x v Q r1 (Pst.pure O1 h1))

/-! arguments, displays -/
def dNil : DA := fun _ Ω => .ok [] Ω
def dCons (da : DE) (dr : DA) : DA := fun ρ Ω => (da ρ Ω).bind fun x Ω1 => (dr ρ Ω1).bind fun xs Ω2 => .ok (x :: xs) Ω2
theorem tda_nil : TDA K E tNil dNil := fun g H Ω ρ σ Q S O h => h g H [] Fr.refl O RpL.nil
theorem tda_cons (ha : TD K E ta da) (hr : TDA K E tas das) : TDA K E (tCons ta tas) (dCons da das) := fun g H Ω ρ σ Q S O h =>
  ha g H Ω ρ σ _ S O (Pst.bind h fun x Ω1 g1 H1 v f1 O1 r1 h1 =>
    hr g1 H1 Ω1 ρ σ _ (S.fr f1) O1 (Pst.bind h1 fun xs Ω2 g2 H2 vs f2 O2 r2 h2 => h2 g2 H2 _ Fr.refl O2 (RpL.cons (Rp.step f2.toGSt _ _ r1) r2)))
theorem mkTup {g : G} {H : Hp} {xs : List D} {vs : List V} {Q : VK} (r : RpL K g H xs vs) (z : xs.length ≤ lim) (h : ∀ g' H' b, Ext g H g' H' → Rp K g' H' (.tup xs) b → Q b H') (p : Addr) (hp : H p = none) : Q (.ref p) (upd H p (.tup vs)) := by
  refine h g (upd H p (.tup vs)) (.ref p) (Ext.new hp) ?_
  simp only [Rp]
  exact ⟨p, vs, rfl, upd_same, RpL.step (Ext.new hp).fr.toGSt _ _ r, z⟩
theorem mkLst {g : G} {H : Hp} {xs : List D} {vs : List V} {Q : VK} (r : RpL K g H xs vs) (z : xs.length ≤ lim) (h : ∀ g' H' b, Ext g H g' H' → Rp K g' H' (.lst xs) b → Q b H') (p : Addr) (hp : H p = none) : Q (.ref p) (upd H p (.lst vs)) := by
  refine h (g.put p .lock) (upd H p (.lst vs)) (.ref p) (Ext.newL .lock hp) ?_
  simp only [Rp]
  exact ⟨p, vs, rfl, ⟨upd_same, G.put_same⟩, RpL.step (Ext.newL .lock hp).fr.toGSt _ _ r, z⟩
def dTup (da : DA) : DE := fun ρ Ω => (da ρ Ω).bind fun xs Ω1 => if xs.length ≤ lim then .ok (.tup xs) Ω1 else .bad
def dLst (da : DA) : DE := fun ρ Ω => (da ρ Ω).bind fun xs Ω1 => if xs.length ≤ lim then .ok (.lst xs) Ω1 else .bad
theorem td_tup (ha : TDA K E tas das) : TD K E (tTup tas) (dTup das) := fun g H Ω ρ σ Q S O h =>
  ha g H Ω ρ σ _ S O (Pst.bind h fun xs Ω1 g1 H1 vs f1 O1 r1 h1 => by
    by_cases z : xs.length ≤ lim
    · rw [if_pos z] at h1
      exact ⟨by rw [r1.length]; exact Nat.le_trans z lim_le, fun p hp => mkTup r1 z (fun g' H' b e r => h1 g' H' b e.fr (O1.ext e) r) p hp⟩
    · rw [if_neg z] at h1
      exact h1.elim)
theorem td_lst (ha : TDA K E tas das) : TD K E (tLst tas) (dLst das) := fun g H Ω ρ σ Q S O h =>
  ha g H Ω ρ σ _ S O (Pst.bind h fun xs Ω1 g1 H1 vs f1 O1 r1 h1 => by
    by_cases z : xs.length ≤ lim
    · rw [if_pos z] at h1
      exact ⟨by rw [r1.length]; exact Nat.le_trans z lim_le, fun p hp => mkLst r1 z (fun g' H' b e r => h1 g' H' b e.fr (O1.ext e) r) p hp⟩
    · rw [if_neg z] at h1
      exact h1.elim)

/-! tests -/
def toB : D → Option Bool
  | .bl b => some b
  | _ => none
def dTest (da : DE) : DT := fun ρ Ω => (da ρ Ω).bind fun x Ω1 => lift (toB x) Ω1
theorem Rp.bl_inv {g : G} {H : Hp} {b : Bool} {v : V} (h : Rp K g H (.bl b) v) : v = .bl b := by simpa only [Rp] using h
theorem Rp.int_inv {g : G} {H : Hp} {i : Int} {v : V} (h : Rp K g H (.int i) v) : v = .int i := by simpa only [Rp] using h
theorem Rp.str_inv {g : G} {H : Hp} {l : List Nat} {v : V} (h : Rp K g H (.str l) v) : v = .str ⟨l.toArray⟩ ∧ l.length ≤ lim ∧ asc l = true := by simpa only [Rp] using h
theorem Rp.non_inv {g : G} {H : Hp} {v : V} (h : Rp K g H .non v) : v = .non := by simpa only [Rp] using h
theorem Rp.tup_inv {g : G} {H : Hp} {ds : List D} {v : V} (h : Rp K g H (.tup ds) v) : ∃ a vs, v = .ref a ∧ SqT K H a vs ∧ RpL K g H ds vs ∧ ds.length ≤ lim := by
  simp only [Rp] at h
  obtain ⟨a, vs, e, q, r, z⟩ := h
  exact ⟨a, vs, e, SqT.of q, r, z⟩
theorem Rp.tup_at {g : G} {H : Hp} {ds : List D} {v : V} (h : Rp K g H (.tup ds) v) : ∃ a vs, v = .ref a ∧ H a = some (.tup vs) ∧ RpL K g H ds vs ∧ ds.length ≤ lim := by simpa only [Rp] using h
theorem Rp.lst_inv {g : G} {H : Hp} {ds : List D} {v : V} (h : Rp K g H (.lst ds) v) : ∃ a vs, v = .ref a ∧ LkL K g H a vs ∧ RpL K g H ds vs ∧ ds.length ≤ lim := by simpa only [Rp] using h
theorem Rp.bl {g : G} {H : Hp} {b : Bool} : Rp K g H (.bl b) (.bl b) := by simp only [Rp]
theorem Rp.int {g : G} {H : Hp} {i : Int} : Rp K g H (.int i) (.int i) := by simp only [Rp]
theorem Rp.non {g : G} {H : Hp} : Rp K g H .non .non := by simp only [Rp]
theorem Rp.str {g : G} {H : Hp} {l : List Nat} (z : l.length ≤ lim) (w : asc l = true) : Rp K g H (.str l) (.str ⟨l.toArray⟩) := by simp only [Rp]; exact ⟨trivial, z, w⟩
theorem tdt_test (ha : TD K E ta da) : TDT K E (tTest ta) (dTest da) := fun g H Ω ρ σ Q S O h =>
  ha g H Ω ρ σ _ S O (Pst.bind h fun x Ω1 g1 H1 v f1 O1 r1 h1 => by
    cases x with
    | bl b => exact ⟨b, r1.bl_inv, h1 g1 H1 b Fr.refl O1 rfl⟩
    | _ => exact h1.elim)
theorem tdt_B (ha : TD K E ta da) : TDT K E (tB ta) (dTest da) := fun g H Ω ρ σ Q S O h =>
  ha g H Ω ρ σ _ S O (Pst.bind h fun x Ω1 g1 H1 v f1 O1 r1 h1 => by
    cases x with
    | bl b => exact ⟨b, r1.bl_inv, h1 g1 H1 b Fr.refl O1 rfl⟩
    | _ => exact h1.elim)
def dAndT (dt du : DT) : DT := fun ρ Ω => (dt ρ Ω).bind fun b Ω1 => if b = true then du ρ Ω1 else .ok false Ω1
def dOrT (dt du : DT) : DT := fun ρ Ω => (dt ρ Ω).bind fun b Ω1 => if b = true then .ok true Ω1 else du ρ Ω1
def dNotT (dt : DT) : DT := fun ρ Ω => (dt ρ Ω).bind fun b Ω1 => .ok (!b) Ω1
theorem tdt_and (h1 : TDT K E tt dt) (h2 : TDT K E tu du) : TDT K E (tAnd tt tu) (dAndT dt du) := fun g H Ω ρ σ Q S O h =>
  h1 g H Ω ρ σ _ S O (Pst.bind h fun x Ω1 g1 H1 v f1 O1 r1 q => by
    subst r1
    cases v with
    | true => exact h2 g1 H1 Ω1 ρ σ Q (S.fr f1) O1 q
    | false => exact q g1 H1 false Fr.refl O1 rfl)
theorem tdt_or (h1 : TDT K E tt dt) (h2 : TDT K E tu du) : TDT K E (tOr tt tu) (dOrT dt du) := fun g H Ω ρ σ Q S O h =>
  h1 g H Ω ρ σ _ S O (Pst.bind h fun x Ω1 g1 H1 v f1 O1 r1 q => by
    subst r1
    cases v with
    | false => exact h2 g1 H1 Ω1 ρ σ Q (S.fr f1) O1 q
    | true => exact q g1 H1 true Fr.refl O1 rfl)
theorem tdt_not (h1 : TDT K E tt dt) : TDT K E (tNot tt) (dNotT dt) := fun g H Ω ρ σ Q S O h =>
  h1 g H Ω ρ σ _ S O (Pst.bind h fun x Ω1 g1 H1 v f1 O1 r1 q => by
    subst r1
    exact q g1 H1 (!v) Fr.refl O1 rfl)
def dAndV (da db : DE) : DE := fun ρ Ω => (da ρ Ω).bind fun x Ω1 => match x with
  | .bl true => db ρ Ω1
  | .bl false => .ok (.bl false) Ω1
  | _ => .bad
def dOrV (da db : DE) : DE := fun ρ Ω => (da ρ Ω).bind fun x Ω1 => match x with
  | .bl true => .ok (.bl true) Ω1
  | .bl false => db ρ Ω1
  | _ => .bad
def dNotV (da : DE) : DE := fun ρ Ω => (da ρ Ω).bind fun x Ω1 => match x with
  | .bl b => .ok (.bl (!b)) Ω1
  | _ => .bad
theorem td_andV (ha : TD K E ta da) (hb : TD K E tb db) : TD K E (tAndV ta tb) (dAndV da db) := fun g H Ω ρ σ Q S O h =>
  ha g H Ω ρ σ _ S O (Pst.bind h fun x Ω1 g1 H1 v f1 O1 r1 q => by
    cases x with
    | bl b =>
      refine ⟨b, r1.bl_inv, ?_⟩
      cases b with
      | true => exact hb g1 H1 Ω1 ρ σ Q (S.fr f1) O1 q
      | false => exact q g1 H1 (.bl false) Fr.refl O1 Rp.bl
    | _ => exact q.elim)
theorem td_orV (ha : TD K E ta da) (hb : TD K E tb db) : TD K E (tOrV ta tb) (dOrV da db) := fun g H Ω ρ σ Q S O h =>
  ha g H Ω ρ σ _ S O (Pst.bind h fun x Ω1 g1 H1 v f1 O1 r1 q => by
    cases x with
    | bl b =>
      refine ⟨b, r1.bl_inv, ?_⟩
      cases b with
      | false => exact hb g1 H1 Ω1 ρ σ Q (S.fr f1) O1 q
      | true => exact q g1 H1 (.bl true) Fr.refl O1 Rp.bl
    | _ => exact q.elim)
theorem td_notV (ha : TD K E ta da) : TD K E (tNotV ta) (dNotV da) := fun g H Ω ρ σ Q S O h =>
  ha g H Ω ρ σ _ S O (Pst.bind h fun x Ω1 g1 H1 v f1 O1 r1 q => by
    cases x with
    | bl b => exact ⟨b, r1.bl_inv, q g1 H1 (.bl (!b)) Fr.refl O1 Rp.bl⟩
    | _ => exact q.elim)
def dIf (dt : DT) (da db : DE) : DE := fun ρ Ω => (dt ρ Ω).bind fun b Ω1 => if b = true then da ρ Ω1 else db ρ Ω1
theorem td_if (h1 : TDT K E tt dt) (ha : TD K E ta da) (hb : TD K E tb db) : TD K E (tIf tt ta tb) (dIf dt da db) := fun g H Ω ρ σ Q S O h =>
  h1 g H Ω ρ σ _ S O (Pst.bind h fun x Ω1 g1 H1 v f1 O1 r1 q => by
    subst r1
    cases v with
    | true => exact ha g1 H1 Ω1 ρ σ Q (S.fr f1) O1 q
    | false => exact hb g1 H1 Ω1 ρ σ Q (S.fr f1) O1 q)
/-- truth of a value: numbers, texts, sequences, None -/
def truth : D → Option Bool
  | .non => some false
  | .bl b => some b
  | .int i => some (i != 0)
  | .str l => some (l.length != 0)
  | .tup ds => some (!ds.isEmpty)
  | .lst ds => some (!ds.isEmpty)
  | .obj _ => none
  | .scr _ => none
end
end Fm
/-! Fm, part 3: operators, comparisons, items, slices, built-ins at the data level. -/
namespace Fm
open PySem PySem.Spec L2
open PyProof.Rows hiding St

/-! ### as the library's data -/
def S (l : List Nat) : Str := ⟨l.toArray⟩
mutual
def toP : D → PyData
  | .non => .none
  | .bl b => .bool b
  | .int i => .int i
  | .str l => .str ⟨l.toArray⟩
  | .tup ds => .tuple (toPs ds)
  | .lst ds => .list (toPs ds)
  | .obj _ => .dict []
  | .scr _ => .dict []
def toPs : List D → List PyData
  | [] => []
  | d :: ds => toP d :: toPs ds
end
/-- plain, of depth n at most -/
def sh : Nat → D → Bool
  | _, .non => true
  | _, .bl _ => true
  | _, .int _ => true
  | _, .str _ => true
  | n + 1, .tup ds => ds.all fun d => sh n d
  | n + 1, .lst ds => ds.all fun d => sh n d
  | _, _ => false
def deq (x y : D) : Bool := PyData.eqv (toP x) (toP y)

section
variable {K : PySem.W.Frag} {E : XK} {g : G} {H : Hp}
mutual
theorem dp_of : ∀ (n : Nat) (d : D) (v : V), sh n d = true → Rp K g H d v → Dp K H v (toP d)
  | _, .non, v, _, r => by rw [r.non_inv]; simp only [toP]; exact .non
  | _, .bl b, v, _, r => by rw [r.bl_inv]; simp only [toP]; exact .bl b
  | _, .int i, v, _, r => by rw [r.int_inv]; simp only [toP]; exact .int i
  | _, .str l, v, _, r => by rw [r.str_inv.1]; simp only [toP]; exact .str _
  | n + 1, .tup ds, v, h, r => by
    obtain ⟨a, vs, rfl, q, rl, _⟩ := r.tup_inv
    simp only [toP]
    exact .tup q (dps_of n ds vs (by simpa only [sh] using h) rl)
  | n + 1, .lst ds, v, h, r => by
    obtain ⟨a, vs, rfl, q, rl, _⟩ := r.lst_inv
    simp only [toP]
    exact .lst q.seq (dps_of n ds vs (by simpa only [sh] using h) rl)
  | 0, .tup _, _, h, _ => by simp [sh] at h
  | 0, .lst _, _, h, _ => by simp [sh] at h
  | 0, .obj _, _, h, _ => by simp [sh] at h
  | _ + 1, .obj _, _, h, _ => by simp [sh] at h
  | 0, .scr _, _, h, _ => by simp [sh] at h
  | _ + 1, .scr _, _, h, _ => by simp [sh] at h
theorem dps_of : ∀ (n : Nat) (ds : List D) (vs : List V), (ds.all fun d => sh n d) = true → RpL K g H ds vs → DpAll K H vs (toPs ds)
  | _, [], vs, _, r => by simp only [RpL] at r; subst r; simp only [toPs]; exact .nil
  | n, d :: ds, vs, h, r => by
    simp only [RpL] at r
    obtain ⟨v, r', rfl, r1, r2⟩ := r
    rw [List.all_cons, Bool.and_eq_true] at h
    simp only [toPs]
    exact .cons (dp_of n d v h.1 r1) (dps_of n ds r' h.2 r2)
end
theorem strOk_asc {l : List Nat} (h : asc l = true) : PyData.strOk ⟨l.toArray⟩ = true := by
  unfold PyData.strOk
  rw [← Array.all_toList]
  show l.all _ = true
  refine List.all_eq_true.mpr fun c hc => ?_
  have := of_decide_eq_true (List.all_eq_true.mp h c hc)
  exact decide_eq_true (by omega)
mutual
theorem lay_of : ∀ (n : Nat) (d : D) (v : V), sh n d = true → Rp K g H d v → (toP d).canLay0 = true
  | _, .non, _, _, _ => by simp only [toP, PyData.canLay0]
  | _, .bl b, _, _, _ => by simp only [toP, PyData.canLay0]
  | _, .int i, _, _, _ => by simp only [toP, PyData.canLay0]
  | _, .str l, _, _, r => by simp only [toP, PyData.canLay0]; exact strOk_asc r.str_inv.2.2
  | n + 1, .tup ds, v, h, r => by
    obtain ⟨a, vs, rfl, q, rl, _⟩ := r.tup_inv
    simp only [toP, PyData.canLay0]
    exact lays_of n ds vs (by simpa only [sh] using h) rl
  | n + 1, .lst ds, v, h, r => by
    obtain ⟨a, vs, rfl, q, rl, _⟩ := r.lst_inv
    simp only [toP, PyData.canLay0]
    exact lays_of n ds vs (by simpa only [sh] using h) rl
  | 0, .tup _, _, h, _ => by simp [sh] at h
  | 0, .lst _, _, h, _ => by simp [sh] at h
  | 0, .obj _, _, h, _ => by simp [sh] at h
  | _ + 1, .obj _, _, h, _ => by simp [sh] at h
  | 0, .scr _, _, h, _ => by simp [sh] at h
  | _ + 1, .scr _, _, h, _ => by simp [sh] at h
theorem lays_of : ∀ (n : Nat) (ds : List D) (vs : List V), (ds.all fun d => sh n d) = true → RpL K g H ds vs → PyData.canLayAll0 (toPs ds) = true
  | _, [], vs, _, r => by simp only [toPs, PyData.canLayAll0]
  | n, d :: ds, vs, h, r => by
    simp only [RpL] at r
    obtain ⟨v, r', rfl, r1, r2⟩ := r
    rw [List.all_cons, Bool.and_eq_true] at h
    simp only [toPs, PyData.canLayAll0, Bool.and_eq_true]
    exact ⟨lay_of n d v h.1 r1, lays_of n ds r' h.2 r2⟩
end
mutual
theorem depth_of : ∀ (n : Nat) (d : D), sh n d = true → (toP d).depth ≤ n
  | _, .non, _ => by simp only [toP, PyData.depth]; omega
  | _, .bl b, _ => by simp only [toP, PyData.depth]; omega
  | _, .int i, _ => by simp only [toP, PyData.depth]; omega
  | _, .str l, _ => by simp only [toP, PyData.depth]; omega
  | n + 1, .tup ds, h => by
    simp only [toP, PyData.depth]
    have := depths_of n ds (by simpa only [sh] using h)
    omega
  | n + 1, .lst ds, h => by
    simp only [toP, PyData.depth]
    have := depths_of n ds (by simpa only [sh] using h)
    omega
  | 0, .tup _, h => by simp [sh] at h
  | 0, .lst _, h => by simp [sh] at h
  | 0, .obj _, h => by simp [sh] at h
  | _ + 1, .obj _, h => by simp [sh] at h
  | 0, .scr _, h => by simp [sh] at h
  | _ + 1, .scr _, h => by simp [sh] at h
theorem depths_of : ∀ (n : Nat) (ds : List D), (ds.all fun d => sh n d) = true → PyData.depthAll (toPs ds) ≤ n
  | n, [], _ => by simp only [toPs, PyData.depthAll]; omega
  | n, d :: ds, h => by
    rw [List.all_cons, Bool.and_eq_true] at h
    simp only [toPs, PyData.depthAll]
    have h1 := depth_of n d h.1
    have h2 := depths_of n ds h.2
    omega
end
theorem shaped_of {n : Nat} {d : D} {v : V} (hn : n ≤ 64) (h : sh n d = true) (r : Rp K g H d v) : SeqAt.shaped (toP d) = true := by
  show ((toP d).canLay0 && decide ((toP d).depth ≤ 64)) = true
  rw [lay_of n d v h r, Bool.true_and]
  exact decide_eq_true (Nat.le_trans (depth_of n d h) hn)
end

/-! ### the functions on data -/
def fPlus : D → D → Option D
  | .int i, .int j => some (.int (i + j))
  | .str l, .str m => if l.length + m.length ≤ lim then some (.str (l ++ m)) else none
  | .tup a, .tup b => if a.length + b.length ≤ lim then some (.tup (a ++ b)) else none
  | .lst a, .lst b => if a.length + b.length ≤ lim then some (.lst (a ++ b)) else none
  | _, _ => none
def fMinus : D → D → Option D
  | .int i, .int j => some (.int (i - j))
  | _, _ => none
def fMul : D → D → Option D
  | .int i, .int j => if CMulB i j = true then some (.int (i * j)) else none
  | _, _ => none
where CMulB (i j : Int) : Bool := (decide (-(2 ^ 64) < i) && decide (i < 2 ^ 64)) || (decide (-(2 ^ 64) < j) && decide (j < 2 ^ 64))
def fMod : D → D → Option D
  | .int i, .int j => if 0 < j then some (.int (i % j)) else none
  | _, _ => none
def fLt : D → D → Option D
  | .int i, .int j => some (.bl (decide (i < j)))
  | .str l, .str m => some (.bl (decide (l < m)))
  | _, _ => none
def fLe : D → D → Option D
  | .int i, .int j => some (.bl (decide (i ≤ j)))
  | .str l, .str m => some (.bl (!decide (m < l)))
  | _, _ => none
def fGt (x y : D) : Option D := fLt y x
def fGe (x y : D) : Option D := fLe y x
def fEq (x y : D) : Option D := if (sh 8 x && sh 8 y) = true then some (.bl (deq x y)) else none
def fNe (x y : D) : Option D := if (sh 8 x && sh 8 y) = true then some (.bl (!deq x y)) else none
def isNon : D → Bool
  | .non => true
  | _ => false
def fIs : D → D → Option D
  | x, .non => some (.bl (isNon x))
  | .bl a, .bl b => some (.bl (decide (a = b)))
  | _, _ => none
def fIsNot (x y : D) : Option D := match fIs x y with
  | some (.bl b) => some (.bl (!b))
  | _ => none
def fIn : D → D → Option D
  | .str [c], .str m => some (.bl (decide (c ∈ m)))
  | x, .tup ds => if (sh 8 x && ds.all fun d => sh 8 d) = true then some (.bl (ds.any fun z => deq z x)) else none
  | x, .lst ds => if (sh 8 x && ds.all fun d => sh 8 d) = true then some (.bl (ds.any fun z => deq z x)) else none
  | _, _ => none
def fNotIn (x y : D) : Option D := match fIn x y with
  | some (.bl b) => some (.bl (!b))
  | _ => none
def fIx : D → D → Option D
  | .tup ds, .int i => atI ds i
  | .lst ds, .int i => atI ds i
  | .str l, .int i => (atI l i).map fun c => .str [c]
  | .scr ns, .int i => (atI ns i).map D.int
  | _, _ => none
def cut {α : Type} (xs : List α) (lo hi : Option Int) : List α := (xs.drop (HT.sIx xs.length 0 lo)).take (HT.sIx xs.length xs.length hi - HT.sIx xs.length 0 lo)
theorem cut_length {α : Type} (xs : List α) (lo hi : Option Int) : (cut xs lo hi).length ≤ xs.length := by
  unfold cut
  rw [List.length_take, List.length_drop]
  omega
def fSl (x : D) (lo hi : Option Int) : Option D := match x with
  | .tup ds => some (.tup (cut ds lo hi))
  | .lst ds => some (.lst (cut ds lo hi))
  | .str l => some (.str (cut l lo hi))
  | _ => none

/-! ### they are what the operators give -/
section
variable {X : Cx} {K : PySem.W.Frag} {E : XK}
theorem atI_len {α β : Type} {xs : List α} {ys : List β} (h : xs.length = ys.length) {i : Int} {v : α} (e : atI xs i = some v) : ∃ j : Nat, xs[j]? = some v ∧ ∀ w, ys[j]? = some w → atI ys i = some w := by
  unfold atI at e ⊢
  rw [← h]
  cases q : ixN xs.length i with
  | none => rw [q] at e; cases e
  | some j =>
    rw [q] at e
    exact ⟨j, e, fun w hw => hw⟩
theorem asc_append {l m : List Nat} (h1 : asc l = true) (h2 : asc m = true) : asc (l ++ m) = true := by
  unfold asc at *
  rw [List.all_append, h1, h2] <;> rfl
theorem asc_cut {l : List Nat} (h : asc l = true) (lo hi : Option Int) : asc (cut l lo hi) = true :=
  List.all_eq_true.mpr fun c hc => List.all_eq_true.mp h c (List.mem_of_mem_drop (List.mem_of_mem_take hc))
theorem asc_get {l : List Nat} (h : asc l = true) {j : Nat} {c : Nat} (e : l[j]? = some c) : asc [c] = true := by
  have := List.all_eq_true.mp h c (List.mem_of_getElem? e)
  show (decide (c < 128) && true) = true
  rw [this] <;> rfl
theorem S_app (l m : List Nat) : ((⟨l.toArray⟩ : Str) ++ (⟨m.toArray⟩ : Str)) = ⟨(l ++ m).toArray⟩ := TL.ext_tl (by rw [TL.tl_append] <;> rfl)
theorem S_len (l : List Nat) : (⟨l.toArray⟩ : Str).length = l.length := by simp [Str.length]

def rPlus (K : PySem.W.Frag) : R2 := fun x y H Q => (rI0 fun i j => .int (i + j)) x y H Q ∨ (∃ i j, x = .str i ∧ y = .str j ∧ i.length + j.length ≤ sizeLine ∧ Q (.str (i ++ j)) H) ∨ rCatA K x y H Q ∨ rCat x y H Q
theorem or_plus : OpR X (binaryOp .Add) (rPlus X.K) := op_add.or (op_add_str.or (op_catA.or op_cat))
theorem rd_plus : RD2 K (rPlus K) fPlus := fun g H x y v w Q rx ry h => by
  cases x <;> cases y <;> try exact h.elim
  · rw [rx.int_inv, ry.int_inv]
    exact .inl ⟨_, _, rfl, rfl, h g H _ Ext.refl Rp.int⟩
  · rename_i l m
    obtain ⟨rfl, z1, a1⟩ := rx.str_inv
    obtain ⟨rfl, z2, a2⟩ := ry.str_inv
    by_cases z : l.length + m.length ≤ lim
    · have h' := h
      simp only [fPlus] at h'
      rw [if_pos z] at h'
      refine .inr (.inl ⟨_, _, rfl, rfl, ?_, ?_⟩)
      · rw [S_len, S_len]
        exact Nat.le_trans z lim_le
      · rw [S_app]
        exact h' g H _ Ext.refl (Rp.str (by rw [List.length_append]; exact z) (asc_append a1 a2))
    · simp only [fPlus] at h
      rw [if_neg z] at h
      exact h.elim
  · rename_i l m
    obtain ⟨a, vs, rfl, q1, r1, z1⟩ := rx.tup_inv
    obtain ⟨b, ws, rfl, q2, r2, z2⟩ := ry.tup_inv
    by_cases z : l.length + m.length ≤ lim
    · simp only [fPlus] at h
      rw [if_pos z] at h
      have hl1 := r1.length
      have hl2 := r2.length
      refine .inr (.inr (.inl ⟨a, b, vs, ws, rfl, rfl, q1, q2, by rw [hl1, hl2]; exact Nat.le_trans z lim_le, fun e => ?_, fun _ e => ?_, fun _ _ p hp => ?_⟩))
      · subst e
        have : l = [] := List.length_eq_zero_iff.mp (by simpa using hl1.symm)
        subst this
        exact h g H _ Ext.refl ry
      · subst e
        have : m = [] := List.length_eq_zero_iff.mp (by simpa using hl2.symm)
        subst this
        rw [List.append_nil] at h
        exact h g H _ Ext.refl rx
      · exact mkTup (r1.append r2) (by rw [List.length_append]; exact z) h p hp
    · simp only [fPlus] at h
      rw [if_neg z] at h
      exact h.elim
  · rename_i l m
    obtain ⟨a, vs, rfl, q1, r1, z1⟩ := rx.lst_inv
    obtain ⟨b, ws, rfl, q2, r2, z2⟩ := ry.lst_inv
    by_cases z : l.length + m.length ≤ lim
    · simp only [fPlus] at h
      rw [if_pos z] at h
      have hl1 := r1.length
      have hl2 := r2.length
      refine .inr (.inr (.inr ⟨a, b, vs, ws, rfl, rfl, q1.1, q2.1, by rw [hl1, hl2]; exact Nat.le_trans z lim_le, fun p hp => ?_⟩))
      exact mkLst (r1.append r2) (by rw [List.length_append]; exact z) h p hp
    · simp only [fPlus] at h
      rw [if_neg z] at h
      exact h.elim
theorem rd_minus : RD2 K (rI0 fun i j => .int (i - j)) fMinus := fun g H x y v w Q rx ry h => by
  cases x <;> cases y <;> try exact h.elim
  rw [rx.int_inv, ry.int_inv]
  exact ⟨_, _, rfl, rfl, h g H _ Ext.refl Rp.int⟩
theorem rd_mul : RD2 K (rI CMul fun i j => .int (i * j)) fMul := fun g H x y v w Q rx ry h => by
  cases x <;> cases y <;> try exact h.elim
  rename_i i j
  rw [rx.int_inv, ry.int_inv]
  simp only [fMul] at h
  by_cases c : fMul.CMulB i j = true
  · rw [if_pos c] at h
    refine ⟨_, _, rfl, rfl, ?_, h g H _ Ext.refl Rp.int⟩
    unfold fMul.CMulB at c
    simp only [Bool.or_eq_true, Bool.and_eq_true, decide_eq_true_eq] at c
    exact c
  · rw [if_neg c] at h
    exact h.elim
theorem rd_mod : RD2 K (rI (fun _ j => 0 < j) fun i j => .int (i % j)) fMod := fun g H x y v w Q rx ry h => by
  cases x <;> cases y <;> try exact h.elim
  rename_i i j
  rw [rx.int_inv, ry.int_inv]
  simp only [fMod] at h
  by_cases c : 0 < j
  · rw [if_pos c] at h
    exact ⟨_, _, rfl, rfl, c, h g H _ Ext.refl Rp.int⟩
  · rw [if_neg c] at h
    exact h.elim
def rLtU : R2 := fun x y H Q => (rI0 fun i j => .bl (decide (i < j))) x y H Q ∨ ∃ i j, x = .str i ∧ y = .str j ∧ Q (.bl (decide (i.cps.toList < j.cps.toList))) H
def rLeU : R2 := fun x y H Q => (rI0 fun i j => .bl (decide (i ≤ j))) x y H Q ∨ ∃ i j, x = .str i ∧ y = .str j ∧ Q (.bl (!decide (j.cps.toList < i.cps.toList))) H
def rGtU : R2 := fun x y H Q => (rI0 fun i j => .bl (decide (j < i))) x y H Q ∨ ∃ i j, x = .str i ∧ y = .str j ∧ Q (.bl (decide (j.cps.toList < i.cps.toList))) H
def rGeU : R2 := fun x y H Q => (rI0 fun i j => .bl (decide (j ≤ i))) x y H Q ∨ ∃ i j, x = .str i ∧ y = .str j ∧ Q (.bl (!decide (i.cps.toList < j.cps.toList))) H
theorem or_lt : OpR X (compareOp .Lt) rLtU := op_lt.or op_lt_str
theorem or_le : OpR X (compareOp .LtE) rLeU := op_le.or op_le_str
theorem or_gt : OpR X (compareOp .Gt) rGtU := op_gt.or op_gt_str
theorem or_ge : OpR X (compareOp .GtE) rGeU := op_ge.or op_ge_str
theorem rd_lt : RD2 K rLtU fLt := fun g H x y v w Q rx ry h => by
  cases x <;> cases y <;> try exact h.elim
  · rw [rx.int_inv, ry.int_inv]
    exact .inl ⟨_, _, rfl, rfl, h g H _ Ext.refl Rp.bl⟩
  · rw [rx.str_inv.1, ry.str_inv.1]
    exact .inr ⟨_, _, rfl, rfl, h g H _ Ext.refl Rp.bl⟩
theorem rd_le : RD2 K rLeU fLe := fun g H x y v w Q rx ry h => by
  cases x <;> cases y <;> try exact h.elim
  · rw [rx.int_inv, ry.int_inv]
    exact .inl ⟨_, _, rfl, rfl, h g H _ Ext.refl Rp.bl⟩
  · rw [rx.str_inv.1, ry.str_inv.1]
    exact .inr ⟨_, _, rfl, rfl, h g H _ Ext.refl Rp.bl⟩
theorem rd_gt : RD2 K rGtU fGt := fun g H x y v w Q rx ry h => by
  unfold fGt at h
  cases x <;> cases y <;> try exact h.elim
  · rw [rx.int_inv, ry.int_inv]
    exact .inl ⟨_, _, rfl, rfl, h g H _ Ext.refl Rp.bl⟩
  · rw [rx.str_inv.1, ry.str_inv.1]
    exact .inr ⟨_, _, rfl, rfl, h g H _ Ext.refl Rp.bl⟩
theorem rd_ge : RD2 K rGeU fGe := fun g H x y v w Q rx ry h => by
  unfold fGe at h
  cases x <;> cases y <;> try exact h.elim
  · rw [rx.int_inv, ry.int_inv]
    exact .inl ⟨_, _, rfl, rfl, h g H _ Ext.refl Rp.bl⟩
  · rw [rx.str_inv.1, ry.str_inv.1]
    exact .inr ⟨_, _, rfl, rfl, h g H _ Ext.refl Rp.bl⟩
theorem rd_eq : RD2 K (rEqD K) fEq := fun g H x y v w Q rx ry h => by
  unfold fEq at h
  by_cases c : (sh 8 x && sh 8 y) = true
  · rw [if_pos c] at h
    obtain ⟨c1, c2⟩ := Bool.and_eq_true_iff.mp c
    exact ⟨toP x, toP y, dp_of 8 x v c1 rx, dp_of 8 y w c2 ry, shaped_of (by decide) c1 rx, shaped_of (by decide) c2 ry, h g H _ Ext.refl Rp.bl⟩
  · rw [if_neg c] at h
    exact h.elim
theorem rd_ne : RD2 K (rNeD K) fNe := fun g H x y v w Q rx ry h => by
  unfold fNe at h
  by_cases c : (sh 8 x && sh 8 y) = true
  · rw [if_pos c] at h
    obtain ⟨c1, c2⟩ := Bool.and_eq_true_iff.mp c
    exact ⟨toP x, toP y, dp_of 8 x v c1 rx, dp_of 8 y w c2 ry, shaped_of (by decide) c1 rx, shaped_of (by decide) c2 ry, h g H _ Ext.refl Rp.bl⟩
  · rw [if_neg c] at h
    exact h.elim
def rIs : R2 := fun x y H Q => (y = .non ∧ Q (.bl (decide (x = .non))) H) ∨ rIsB x y H Q
def rIsNot : R2 := fun x y H Q => (y = .non ∧ Q (.bl (!decide (x = .non))) H) ∨ rNotB x y H Q
theorem or_is : OpR X (compareOp .Is) rIs := op_isN.or op_isBl
theorem or_isnot : OpR X (compareOp .IsNot) rIsNot := op_notN.or op_notBl
theorem non_dec {g : G} {H : Hp} {x : D} {v : V} (r : Rp K g H x v) : decide (v = .non) = isNon x := by
  cases x with
  | non => rw [r.non_inv]; simp [isNon]
  | bl b => rw [r.bl_inv]; simp [isNon]
  | int i => rw [r.int_inv]; simp [isNon]
  | str l => rw [r.str_inv.1]; simp [isNon]
  | tup l => obtain ⟨a, vs, rfl, _⟩ := r.tup_inv; simp [isNon]
  | lst l => obtain ⟨a, vs, rfl, _⟩ := r.lst_inv; simp [isNon]
  | obj i => simp only [Rp] at r; rw [r.1]; simp [isNon]
  | scr ns => simp only [Rp] at r; obtain ⟨a, rfl, _⟩ := r; simp [isNon]
theorem rd_is : RD2 K rIs fIs := fun g H x y v w Q rx ry h => by
  cases y with
  | non =>
    rw [ry.non_inv]
    have h' : PstX K g H (Rp K) Q (some (.bl (isNon x))) := by cases x <;> exact h
    refine .inl ⟨rfl, ?_⟩
    rw [non_dec rx]
    exact h' g H _ Ext.refl Rp.bl
  | bl b =>
    cases x <;> try exact h.elim
    rw [rx.bl_inv, ry.bl_inv]
    exact .inr ⟨_, _, rfl, rfl, h g H _ Ext.refl Rp.bl⟩
  | _ => cases x <;> exact h.elim
theorem rd_isnot : RD2 K rIsNot fIsNot := fun g H x y v w Q rx ry h => by
  unfold fIsNot at h
  cases y with
  | non =>
    rw [ry.non_inv]
    have h' : PstX K g H (Rp K) Q (some (.bl (!isNon x))) := by cases x <;> exact h
    refine .inl ⟨rfl, ?_⟩
    rw [non_dec rx]
    exact h' g H _ Ext.refl Rp.bl
  | bl b =>
    cases x <;> try exact h.elim
    rw [rx.bl_inv, ry.bl_inv]
    exact .inr ⟨_, _, rfl, rfl, h g H _ Ext.refl Rp.bl⟩
  | _ => cases x <;> exact h.elim
/-! in -/
def rInT (K : PySem.W.Frag) : R2 := fun x y H Q => ∃ d ds, Dp K H x d ∧ Dp K H y (.tuple ds) ∧ SeqAt.shaped d = true ∧ PyData.canLayAll0 ds = true ∧ Q (.bl (ds.any fun z => PyData.eqv z d)) H
def rNotInT (K : PySem.W.Frag) : R2 := fun x y H Q => ∃ d ds, Dp K H x d ∧ Dp K H y (.tuple ds) ∧ SeqAt.shaped d = true ∧ PyData.canLayAll0 ds = true ∧ Q (.bl (!ds.any fun z => PyData.eqv z d)) H
def rInL (K : PySem.W.Frag) : R2 := fun x y H Q => ∃ d ds, Dp K H x d ∧ Dp K H y (.list ds) ∧ SeqAt.shaped d = true ∧ PyData.canLayAll0 ds = true ∧ Q (.bl (ds.any fun z => PyData.eqv z d)) H
def rNotInL (K : PySem.W.Frag) : R2 := fun x y H Q => ∃ d ds, Dp K H x d ∧ Dp K H y (.list ds) ∧ SeqAt.shaped d = true ∧ PyData.canLayAll0 ds = true ∧ Q (.bl (!ds.any fun z => PyData.eqv z d)) H
theorem op_inT (hu : X.A.units + 65 < cLine) : OpR X (compareOp .In) (rInT X.K) := by
  intro pins s σ H x y v u Q I rx ry h
  obtain ⟨d, ds, hd, he, sd, se, q⟩ := h
  obtain ⟨as, r1⟩ := Dp.reads I d x v hd rx
  obtain ⟨bs, r2⟩ := Dp.reads I (.tuple ds) y u he ry
  exact SeqAt.in_tuple_reads r2 r1 se (SeqAt.canLay_of_shaped sd) (room_in_shaped sd hu) ⟨.bl _, H, I, rfl, q⟩
theorem op_notInT (hu : X.A.units + 65 < cLine) : OpR X (compareOp .NotIn) (rNotInT X.K) := by
  intro pins s σ H x y v u Q I rx ry h
  obtain ⟨d, ds, hd, he, sd, se, q⟩ := h
  obtain ⟨as, r1⟩ := Dp.reads I d x v hd rx
  obtain ⟨bs, r2⟩ := Dp.reads I (.tuple ds) y u he ry
  exact SeqAt.notIn_tuple_reads r2 r1 se (SeqAt.canLay_of_shaped sd) (room_in_shaped sd hu) ⟨.bl _, H, I, rfl, q⟩
theorem op_inL (hu : X.A.units + 65 < cLine) : OpR X (compareOp .In) (rInL X.K) := by
  intro pins s σ H x y v u Q I rx ry h
  obtain ⟨d, ds, hd, he, sd, se, q⟩ := h
  obtain ⟨as, r1⟩ := Dp.reads I d x v hd rx
  obtain ⟨bs, r2⟩ := Dp.reads I (.list ds) y u he ry
  exact SeqAt.in_list_reads r2 r1 se (SeqAt.canLay_of_shaped sd) (room_in_shaped sd hu) ⟨.bl _, H, I, rfl, q⟩
theorem op_notInL (hu : X.A.units + 65 < cLine) : OpR X (compareOp .NotIn) (rNotInL X.K) := by
  intro pins s σ H x y v u Q I rx ry h
  obtain ⟨d, ds, hd, he, sd, se, q⟩ := h
  obtain ⟨as, r1⟩ := Dp.reads I d x v hd rx
  obtain ⟨bs, r2⟩ := Dp.reads I (.list ds) y u he ry
  exact SeqAt.notIn_list_reads r2 r1 se (SeqAt.canLay_of_shaped sd) (room_in_shaped sd hu) ⟨.bl _, H, I, rfl, q⟩
def rIn1 : R2 := fun x y H Q => ∃ (c : Nat) (z : Str), x = .str ⟨#[c]⟩ ∧ y = .str z ∧ Q (.bl (decide (c ∈ z.cps.toList))) H
def rNotIn1 : R2 := fun x y H Q => ∃ (c : Nat) (z : Str), x = .str ⟨#[c]⟩ ∧ y = .str z ∧ Q (.bl (!decide (c ∈ z.cps.toList))) H
def rInU (K : PySem.W.Frag) : R2 := fun x y H Q => rIn1 x y H Q ∨ rInT K x y H Q ∨ rInL K x y H Q
def rNotInU (K : PySem.W.Frag) : R2 := fun x y H Q => rNotIn1 x y H Q ∨ rNotInT K x y H Q ∨ rNotInL K x y H Q
theorem or_in (hu : X.A.units + 65 < cLine) : OpR X (compareOp .In) (rInU X.K) := op_in_sign.or ((op_inT hu).or (op_inL hu))
theorem or_notin (hu : X.A.units + 65 < cLine) : OpR X (compareOp .NotIn) (rNotInU X.K) := op_notIn_sign.or ((op_notInT hu).or (op_notInL hu))
theorem toPs_any (x : D) : ∀ ds : List D, (toPs ds).any (fun z => PyData.eqv z (toP x)) = ds.any fun z => deq z x
  | [] => by simp only [toPs]; rfl
  | d :: ds => by
    simp only [toPs, List.any_cons]
    rw [toPs_any x ds] <;> rfl
theorem fIn_tup {x : D} {ds : List D} : fIn x (.tup ds) = if (sh 8 x && ds.all fun d => sh 8 d) = true then some (.bl (ds.any fun z => deq z x)) else none := by
  cases x <;> first
    | rfl
    | (rename_i l; cases l with
        | nil => rfl
        | cons c r => cases r <;> rfl)
theorem fIn_lst {x : D} {ds : List D} : fIn x (.lst ds) = if (sh 8 x && ds.all fun d => sh 8 d) = true then some (.bl (ds.any fun z => deq z x)) else none := by
  cases x <;> first
    | rfl
    | (rename_i l; cases l with
        | nil => rfl
        | cons c r => cases r <;> rfl)
theorem in_ways {g : G} {H : Hp} {x y : D} {v w : V} (rx : Rp K g H x v) (ry : Rp K g H y w) {b : Bool} (h : fIn x y = some (.bl b)) :
    (∃ c z, v = .str ⟨#[c]⟩ ∧ w = .str z ∧ b = decide (c ∈ z.cps.toList)) ∨
    (∃ d ds, Dp K H v d ∧ Dp K H w (.tuple ds) ∧ SeqAt.shaped d = true ∧ PyData.canLayAll0 ds = true ∧ b = ds.any fun z => PyData.eqv z d) ∨
    (∃ d ds, Dp K H v d ∧ Dp K H w (.list ds) ∧ SeqAt.shaped d = true ∧ PyData.canLayAll0 ds = true ∧ b = ds.any fun z => PyData.eqv z d) := by
  cases y with
  | str m =>
    cases x with
    | str l =>
      match l, h with
      | [c], h =>
        obtain ⟨rfl, _⟩ := rx.str_inv
        obtain ⟨rfl, _⟩ := ry.str_inv
        have e : D.bl (decide (c ∈ m)) = .bl b := Option.some.inj h
        injection e with e
        exact .inl ⟨c, _, rfl, rfl, e.symm⟩
      | [], h => cases h
      | _ :: _ :: _, h => cases h
    | _ => cases h
  | tup ds =>
    rw [fIn_tup] at h
    by_cases c : (sh 8 x && ds.all fun d => sh 8 d) = true
    · rw [if_pos c] at h
      obtain ⟨c1, c2⟩ := Bool.and_eq_true_iff.mp c
      obtain ⟨a, vs, rfl, q, r, z⟩ := ry.tup_inv
      injection h with h
      injection h with h
      exact .inr (.inl ⟨toP x, toPs ds, dp_of 8 x v c1 rx, .tup q (dps_of 8 ds vs c2 r), shaped_of (by decide) c1 rx, lays_of 8 ds vs c2 r, by rw [toPs_any]; exact h.symm⟩)
    · rw [if_neg c] at h
      cases h
  | lst ds =>
    rw [fIn_lst] at h
    by_cases c : (sh 8 x && ds.all fun d => sh 8 d) = true
    · rw [if_pos c] at h
      obtain ⟨c1, c2⟩ := Bool.and_eq_true_iff.mp c
      obtain ⟨a, vs, rfl, q, r, z⟩ := ry.lst_inv
      injection h with h
      injection h with h
      exact .inr (.inr ⟨toP x, toPs ds, dp_of 8 x v c1 rx, .lst q.seq (dps_of 8 ds vs c2 r), shaped_of (by decide) c1 rx, lays_of 8 ds vs c2 r, by rw [toPs_any]; exact h.symm⟩)
    · rw [if_neg c] at h
      cases h
  | _ =>
    cases x <;> first
      | (cases h; done)
      | (rename_i l; cases l with
          | nil => cases h
          | cons c r => cases r <;> cases h)
theorem fIn_bl {x y d : D} (h : fIn x y = some d) : ∃ b, d = .bl b := by
  cases y with
  | tup ds =>
    rw [fIn_tup] at h
    split at h
    · exact ⟨_, (Option.some.inj h).symm⟩
    · cases h
  | lst ds =>
    rw [fIn_lst] at h
    split at h
    · exact ⟨_, (Option.some.inj h).symm⟩
    · cases h
  | str m =>
    cases x with
    | str l =>
      match l, h with
      | [c], h => exact ⟨_, (Option.some.inj h).symm⟩
      | [], h => cases h
      | _ :: _ :: _, h => cases h
    | _ => cases h
  | _ =>
    cases x <;> first
      | (cases h; done)
      | (rename_i l; cases l with
          | nil => cases h
          | cons c r => cases r <;> cases h)
theorem rd_in : RD2 K (rInU K) fIn := fun g H x y v w Q rx ry h => by
  cases e : fIn x y with
  | none => rw [e] at h; exact h.elim
  | some d =>
    obtain ⟨b, rfl⟩ := fIn_bl e
    rw [e] at h
    have hq : Q (.bl b) H := h g H _ Ext.refl Rp.bl
    rcases in_ways rx ry e with ⟨c, z, rfl, rfl, rfl⟩ | ⟨d, ds, h1, h2, h3, h4, rfl⟩ | ⟨d, ds, h1, h2, h3, h4, rfl⟩
    · exact .inl ⟨c, z, rfl, rfl, hq⟩
    · exact .inr (.inl ⟨d, ds, h1, h2, h3, h4, hq⟩)
    · exact .inr (.inr ⟨d, ds, h1, h2, h3, h4, hq⟩)
theorem rd_notin : RD2 K (rNotInU K) fNotIn := fun g H x y v w Q rx ry h => by
  unfold fNotIn at h
  cases e : fIn x y with
  | none => rw [e] at h; exact h.elim
  | some d =>
    obtain ⟨b, rfl⟩ := fIn_bl e
    rw [e] at h
    have hq : Q (.bl (!b)) H := h g H _ Ext.refl Rp.bl
    rcases in_ways rx ry e with ⟨c, z, rfl, rfl, rfl⟩ | ⟨d, ds, h1, h2, h3, h4, rfl⟩ | ⟨d, ds, h1, h2, h3, h4, rfl⟩
    · exact .inl ⟨c, z, rfl, rfl, hq⟩
    · exact .inr (.inl ⟨d, ds, h1, h2, h3, h4, hq⟩)
    · exact .inr (.inr ⟨d, ds, h1, h2, h3, h4, hq⟩)
/-! items -/
theorem rd_ix : RD2 K (rIx K) fIx := fun g H x y v w Q rx ry h => by
  cases y with
  | int i =>
    rw [ry.int_inv]
    cases x with
    | tup ds =>
      obtain ⟨a, vs, rfl, q, r, z⟩ := rx.tup_inv
      have h' : PstX K g H (Rp K) Q (atI ds i) := h
      cases e : atI ds i with
      | none => rw [e] at h'; exact h'.elim
      | some d =>
        rw [e] at h'
        obtain ⟨j, e1, e2⟩ := atI_len (ys := vs) r.length.symm e
        obtain ⟨w, e3, rw'⟩ := r.get e1
        exact .inr (.inl ⟨a, vs, i, w, rfl, rfl, q, e2 w e3, h' g H w Ext.refl rw'⟩)
    | lst ds =>
      obtain ⟨a, vs, rfl, q, r, z⟩ := rx.lst_inv
      have h' : PstX K g H (Rp K) Q (atI ds i) := h
      cases e : atI ds i with
      | none => rw [e] at h'; exact h'.elim
      | some d =>
        rw [e] at h'
        obtain ⟨j, e1, e2⟩ := atI_len (ys := vs) r.length.symm e
        obtain ⟨w, e3, rw'⟩ := r.get e1
        exact .inl ⟨a, vs, i, w, rfl, rfl, q.seq, e2 w e3, h' g H w Ext.refl rw'⟩
    | str l =>
      obtain ⟨rfl, z, a⟩ := rx.str_inv
      have h' : PstX K g H (Rp K) Q ((atI l i).map fun c => .str [c]) := h
      cases e : atI l i with
      | none => rw [e] at h'; exact h'.elim
      | some c =>
        rw [e] at h'
        obtain ⟨j, e1, _⟩ := atI_len (ys := l) rfl e
        exact .inr (.inr ⟨_, i, c, rfl, rfl, by rw [S_len]; exact Nat.le_trans z lim_le, e, h' g H _ Ext.refl (Rp.str (by show 1 ≤ lim; decide) (asc_get a e1))⟩)
    | scr ns =>
      simp only [Rp] at rx
      obtain ⟨a, rfl, q⟩ := rx
      have h' : PstX K g H (Rp K) Q ((atI ns i).map D.int) := h
      cases e : atI ns i with
      | none => rw [e] at h'; exact h'.elim
      | some n =>
        rw [e] at h'
        obtain ⟨j, e1, e2⟩ := atI_len (ys := ns.map V.int) (by simp) e
        exact .inl ⟨a, _, i, _, rfl, rfl, q.seq, e2 (.int n) (by rw [List.getElem?_map, e1] <;> rfl), h' g H _ Ext.refl Rp.int⟩
    | _ => exact h.elim
  | _ => cases x <;> exact h.elim
/-! slices -/
def DO := Env1 → Om → Res (Option Int)
def TDO (K : PySem.W.Frag) (E : XK) (to : TO) (d : DO) : Prop := ∀ g H Ω ρ σ Q, Sl K g H ρ σ → Ob K g H Ω → Pst K E g H (fun _ _ (a b : Option Int) => b = a) Q (d ρ Ω) → to σ H Q
def dNoP : DO := fun _ Ω => .ok none Ω
def dPart (da : DE) : DO := fun ρ Ω => (da ρ Ω).bind fun x Ω1 => match x with
  | .int i => .ok (some i) Ω1
  | _ => .bad
theorem tdo_none : TDO K E tNoPart dNoP := fun g H Ω ρ σ Q S O h => h g H none Fr.refl O rfl
theorem tdo_some {ta : TE} {da : DE} (ha : TD K E ta da) : TDO K E (tPart ta) (dPart da) := fun g H Ω ρ σ Q S O h =>
  ha g H Ω ρ σ _ S O (Pst.bind h fun x Ω1 g1 H1 v f1 O1 r1 q => by
    cases x with
    | int i => exact ⟨i, r1.int_inv, q g1 H1 (some i) Fr.refl O1 rfl⟩
    | _ => exact q.elim)
def rSlU (K : PySem.W.Frag) : V → Option Int → Option Int → Hp → VK → Prop := fun x lo hi H Q => rSlS x lo hi H Q ∨ rSlA K x lo hi H Q ∨ rSlL K x lo hi H Q
theorem or_sl : L2.SlR X (rSlU X.K) := sl_str.or (sl_tupA.or sl_list)
def dSl (da : DE) (dl dh : DO) : DE := fun ρ Ω => (da ρ Ω).bind fun x Ω1 => (dl ρ Ω1).bind fun lo Ω2 => (dh ρ Ω2).bind fun hi Ω3 => lift (fSl x lo hi) Ω3
theorem RpL.cut {g : G} {H : Hp} {ds : List D} {vs : List V} (r : RpL K g H ds vs) (lo hi : Option Int) : RpL K g H (Fm.cut ds lo hi) (cutV vs lo hi) := by
  unfold Fm.cut cutV
  rw [← r.length]
  exact (r.drop _).take _
theorem rd_sl {g : G} {H : Hp} {x : D} {v : V} {lo hi : Option Int} {Q : VK} (rx : Rp K g H x v) (h : PstX K g H (Rp K) Q (fSl x lo hi)) : rSlU K v lo hi H Q := by
  cases x with
  | str l =>
    obtain ⟨rfl, z, a⟩ := rx.str_inv
    refine .inl ⟨_, rfl, by rw [S_len]; exact Nat.le_trans z lim_le, ?_⟩
    have e : cutS ⟨l.toArray⟩ lo hi = ⟨(Fm.cut l lo hi).toArray⟩ := by
      unfold cutS Fm.cut
      rw [S_len]
    rw [e]
    exact h g H _ Ext.refl (Rp.str (Nat.le_trans (cut_length _ _ _) z) (asc_cut a lo hi))
  | tup ds =>
    obtain ⟨a, vs, rfl, q, r, z⟩ := rx.tup_inv
    have hl := r.length
    refine .inr (.inl ⟨a, vs, rfl, q, fun hw => ?_, fun _ p hp => mkTup (r.cut lo hi) (Nat.le_trans (cut_length _ _ _) z) h p hp⟩)
    have e : Fm.cut ds lo hi = ds := by
      unfold Fm.cut
      rw [← hl, hw.1, hw.2, List.drop_zero, Nat.sub_zero, hl, List.take_length]
    have h' : PstX K g H (Rp K) Q (some (.tup ds)) := by
      rw [← e]
      exact h
    exact h' g H _ Ext.refl rx
  | lst ds =>
    obtain ⟨a, vs, rfl, q, r, z⟩ := rx.lst_inv
    exact .inr (.inr ⟨a, vs, rfl, q.seq, fun p hp => mkLst (r.cut lo hi) (Nat.le_trans (cut_length _ _ _) z) h p hp⟩)
  | _ => exact h.elim
theorem td_sl {ta : TE} {da : DE} {tl th : TO} {dl dh : DO} (ha : TD K E ta da) (hl : TDO K E tl dl) (hh : TDO K E th dh) : TD K E (tSl (rSlU K) ta tl th) (dSl da dl dh) := fun g H Ω ρ σ Q S O h =>
  ha g H Ω ρ σ _ S O (Pst.bind h fun x Ω1 g1 H1 v f1 O1 r1 h1 =>
    hl g1 H1 Ω1 ρ σ _ (S.fr f1) O1 (Pst.bind h1 fun lo Ω2 g2 H2 lo' f2 O2 r2 h2 =>
      hh g2 H2 Ω2 ρ σ _ ((S.fr f1).fr f2) O2 (Pst.bind h2 fun hi Ω3 g3 H3 hi' f3 O3 r3 h3 => by
        subst r2 r3
        exact rd_sl (Rp.step (f2.trans f3).toGSt _ _ r1) (Pst.pure O3 h3))))
end
end Fm
/-! Fm, part 4: targets, walks, statements, loops, comprehensions at the data level. -/
namespace Fm
open PySem PySem.Spec L2
open PyProof.Rows hiding St

structure FrE (g : G) (H : Hp) (g' : G) (H' : Hp) : Prop extends GSt g H g' H' where
  same : ∀ a o, H a = some o → (∀ i, g.own a ≠ some (.obj i)) → (∀ i f, g.own a ≠ some (.fld i f)) → H' a = some o
theorem FrE.fr {g1 g2 g3 : G} {H1 H2 H3 : Hp} (a : FrE g1 H1 g2 H2) (b : Fr g2 H2 g3 H3) : FrE g1 H1 g3 H3 where
  toGSt := a.toGSt.trans b.toGSt
  same := fun x o h h1 h2 => b.same x o (a.same x o h h1 h2) (by rw [a.own x (ne_some h)]; exact h1) (by rw [a.own x (ne_some h)]; exact h2)
theorem FrE.refl {g : G} {H : Hp} : FrE g H g H := ⟨GSt.refl, fun _ _ h _ _ => h⟩

def isOwn : Slot → Bool
  | .own _ => true
  | .dct _ => true
  | _ => false
structure SR (K : PySem.W.Frag) (g0 : G) (H0 : Hp) (g : G) (H : Hp) (Ω : Om) (ρ : Env1) (σ : St) : Prop where
  sl : Sl K g H ρ σ
  ob : Ob K g H Ω
  fresh : ∀ (i : Nat) (s : Slot), ρ[i]? = some s → isOwn s = true → H0 (g.adr (.slot i)) = none
  fe : FrE g0 H0 g H
theorem SR.fr {K : PySem.W.Frag} {g0 g g1 : G} {H0 H H1 : Hp} {Ω Ω1 : Om} {ρ : Env1} {σ : St} (s : SR K g0 H0 g H Ω ρ σ) (f : Fr g H g1 H1) (o : Ob K g1 H1 Ω1) : SR K g0 H0 g1 H1 Ω1 ρ σ :=
  ⟨s.sl.fr f, o, fun i t h1 h2 => by rw [f.slot]; exact s.fresh i t h1 h2, s.fe.fr f⟩

inductive Fl where
  | nx (ρ : Env1) (Ω : Om) | rt (d : D) (Ω : Om) | exc (n : Str) (Ω : Om) | bad
abbrev DS := Env1 → Om → Fl
def Res.fl {α : Type} (r : Res α) (f : α → Om → Fl) : Fl := match r with
  | .ok a Ω => f a Ω
  | .exc n Ω => .exc n Ω
  | .bad => .bad
def Fl.then (r : Fl) (f : Env1 → Om → Fl) : Fl := match r with
  | .nx ρ Ω => f ρ Ω
  | r => r
def PstS (K : PySem.W.Frag) (E : XK) (g0 : G) (H0 : Hp) (g : G) (H : Hp) (D : Ends) : Fl → Prop
  | .nx ρ' Ω' => ∀ g' H' σ', GSt g H g' H' → SR K g0 H0 g' H' Ω' ρ' σ' → D.nx σ' H'
  | .rt d Ω' => ∀ g' H' v, FrE g0 H0 g' H' → Ob K g' H' Ω' → Rp K g' H' d v → D.rt v H'
  | .exc n Ω' => ∀ g' H', FrE g0 H0 g' H' → Ob K g' H' Ω' → E (.ref (He.ga K n)) none H'
  | .bad => False
def TDS (K : PySem.W.Frag) (E : XK) (ts : TS) (ds : DS) : Prop := ∀ g0 H0 g H Ω ρ σ D, SR K g0 H0 g H Ω ρ σ → PstS K E g0 H0 g H D (ds ρ Ω) → ts D σ H
structure PDS (X : Cx) (K : PySem.W.Frag) (E : XK) (st : Stmt) (ts : TS) (ds : DS) : Prop where
  k : X.K = K
  ps : PS X st ts
  td : TDS K E ts ds
structure PDSs (X : Cx) (K : PySem.W.Frag) (E : XK) (st : List Stmt) (ts : TS) (ds : DS) : Prop where
  k : X.K = K
  ps : PSs X st ts
  td : TDS K E ts ds

section
variable {K : PySem.W.Frag} {E : XK} {g0 g g1 : G} {H0 H H1 : Hp} {D : Ends}
theorem PstS.st (f : GSt g H g1 H1) : ∀ {r : Fl}, PstS K E g0 H0 g H D r → PstS K E g0 H0 g1 H1 D r
  | .nx _ _, h => fun g' H' σ' f' s => h g' H' σ' (f.trans f') s
  | .rt _ _, h => h
  | .exc _ _, h => h
  | .bad, h => h
theorem PstS.bind {α β : Type} {rep1 : G → Hp → α → β → Prop} {Q1 : β → Hp → Prop} {f : α → Om → Fl} (fe : FrE g0 H0 g H) :
    ∀ {r : Res α}, PstS K E g0 H0 g H D (r.fl f) → (∀ x Ω1 g1 H1 b, Fr g H g1 H1 → Ob K g1 H1 Ω1 → rep1 g1 H1 x b → PstS K E g0 H0 g1 H1 D (f x Ω1) → Q1 b H1) → Pst K E g H rep1 Q1 r
  | .ok a Ω1, h, k => fun g1 H1 b f1 o r => k a Ω1 g1 H1 b f1 o r (PstS.st f1.toGSt h)
  | .exc _ _, h, _ => fun g' H' f' o => h g' H' (fe.fr f') o
  | .bad, h, _ => h
theorem PstS.thn {f : Env1 → Om → Fl} {nx : St → Hp → Prop} : ∀ {r : Fl}, PstS K E g0 H0 g H D (r.then f) → (∀ ρ' Ω' g' H' σ', GSt g H g' H' → SR K g0 H0 g' H' Ω' ρ' σ' → PstS K E g0 H0 g' H' D (f ρ' Ω') → nx σ' H') → PstS K E g0 H0 g H { D with nx := nx } r
  | .nx ρ' Ω', h, k => fun g' H' σ' f' s => k ρ' Ω' g' H' σ' f' s (PstS.st f' h)
  | .rt _ _, h, _ => h
  | .exc _ _, h, _ => h
  | .bad, h, _ => h
theorem PstS.ends {D' : Ends} (h1 : D'.nx = D.nx) (h2 : D'.rt = D.rt) : ∀ {r : Fl}, PstS K E g0 H0 g H D r → PstS K E g0 H0 g H D' r
  | .nx _ _, h => fun g' H' σ' f' s => by rw [h1]; exact h g' H' σ' f' s
  | .rt _ _, h => fun g' H' v a b c => by rw [h2]; exact h g' H' v a b c
  | .exc _ _, h => h
  | .bad, h => h
end

/-! ### blocks -/
section
variable {K : PySem.W.Frag} {E : XK} {ts tu : TS} {ds du : DS} {te : TE} {de : DE} {tt : TT} {dt : DT}
def dNext : DS := fun ρ Ω => .nx ρ Ω
def dSeq (s t : DS) : DS := fun ρ Ω => (s ρ Ω).then t
theorem tds_next : TDS K E tNext dNext := fun g0 H0 g H Ω ρ σ D s h => h g H σ GSt.refl s
theorem tds_seq (h1 : TDS K E ts ds) (h2 : TDS K E tu du) : TDS K E (tSeq ts tu) (dSeq ds du) := fun g0 H0 g H Ω ρ σ D s h =>
  h1 g0 H0 g H Ω ρ σ _ s (PstS.thn h fun ρ' Ω' g' H' σ' f' s' h' => h2 g0 H0 g' H' Ω' ρ' σ' D s' h')
def dDrop (de : DE) : DS := fun ρ Ω => (de ρ Ω).fl fun _ Ω1 => .nx ρ Ω1
theorem tds_drop (h1 : TD K E te de) : TDS K E (tDrop te) (dDrop de) := fun g0 H0 g H Ω ρ σ D s h =>
  h1 g H Ω ρ σ _ s.sl s.ob (PstS.bind s.fe h fun x Ω1 g1 H1 b f1 o1 r1 h' => h' g1 H1 σ GSt.refl (s.fr f1 o1))
def dRet (de : DE) : DS := fun ρ Ω => (de ρ Ω).fl fun d Ω1 => .rt d Ω1
theorem tds_ret (h1 : TD K E te de) : TDS K E (tRet te) (dRet de) := fun g0 H0 g H Ω ρ σ D s h =>
  h1 g H Ω ρ σ _ s.sl s.ob (PstS.bind s.fe h fun x Ω1 g1 H1 b f1 o1 r1 h' => h' g1 H1 b (s.fe.fr f1) o1 r1)
def dRetN : DS := fun _ Ω => .rt .non Ω
theorem tds_retN : TDS K E tRetN dRetN := fun g0 H0 g H Ω ρ σ D s h => h g H .non s.fe s.ob Rp.non
def dIfS (dt : DT) (s t : DS) : DS := fun ρ Ω => (dt ρ Ω).fl fun b Ω1 => if b = true then s ρ Ω1 else t ρ Ω1
theorem tds_if (hc : TDT K E tt dt) (h1 : TDS K E ts ds) (h2 : TDS K E tu du) : TDS K E (tIfS tt ts tu) (dIfS dt ds du) := fun g0 H0 g H Ω ρ σ D s h =>
  hc g H Ω ρ σ _ s.sl s.ob (PstS.bind s.fe h fun x Ω1 g1 H1 b f1 o1 r1 h' => by
    subst r1
    cases b with
    | true => exact h1 g0 H0 g1 H1 Ω1 ρ σ D (s.fr f1 o1) h'
    | false => exact h2 g0 H0 g1 H1 Ω1 ρ σ D (s.fr f1 o1) h')
def dNeverS : DS := fun _ _ => .bad
theorem tds_never : TDS K E tNever dNeverS := fun g0 H0 g H Ω ρ σ D s h => h
/-- raise -/
def dRaise (n : Str) : DS := fun _ Ω => .exc n Ω
theorem tds_raise {n : Str} {C : Addr} (hC : C = He.ga K n) : TDS K E (fun _ _ H => E (.ref C) none H) (dRaise n) := fun g0 H0 g H Ω ρ σ D s h => by
  rw [hC]
  exact h g H s.fe s.ob

/-! ### targets -/
abbrev DG := D → Env1 → Option Env1
abbrev DGs := List D → Env1 → Option Env1
/-- no slot becomes one's own -/
def SubO (ρ' ρ : Env1) : Prop := ∀ (i : Nat) (s : Slot), ρ'[i]? = some s → isOwn s = true → ρ[i]? = some s
structure TDG (K : PySem.W.Frag) (tg : TG) (dg : DG) : Prop where
  run : ∀ g H ρ ρ' σ d v Q, Sl K g H ρ σ → Rp K g H d v → dg d ρ = some ρ' → (∀ σ', Sl K g H ρ' σ' → Q σ' H) → tg v σ H Q
  sub : ∀ d ρ ρ', dg d ρ = some ρ' → SubO ρ' ρ
structure TDGs (K : PySem.W.Frag) (tg : TGs) (dg : DGs) : Prop where
  run : ∀ g H ρ ρ' σ ds vs Q, Sl K g H ρ σ → RpL K g H ds vs → dg ds ρ = some ρ' → (∀ σ', Sl K g H ρ' σ' → Q σ' H) → tg vs σ H Q
  sub : ∀ d ρ ρ', dg d ρ = some ρ' → SubO ρ' ρ
theorem SubO.refl {ρ : Env1} : SubO ρ ρ := fun _ _ h _ => h
theorem SubO.trans {a b c : Env1} (h : SubO a b) (k : SubO b c) : SubO a c := fun i s e o => k i s (h i s e o) o
theorem SubO.set {ρ : Env1} {i : Nat} {d : D} : SubO (ρ.set i (.val d)) ρ := fun j s e o => by
  by_cases hj : i = j
  · subst hj
    rw [List.getElem?_set_self'] at e
    cases q : ρ[i]? with
    | none => rw [q] at e; simp at e
    | some s0 =>
      rw [q] at e
      simp at e
      subst e
      cases o
  · rw [List.getElem?_set_ne hj] at e
    exact e
def gN (i : Nat) : DG := fun d ρ => some (ρ.set i (.val d))
theorem tdg_name (i : Nat) : TDG K (gName i) (gN i) :=
  ⟨fun g H ρ ρ' σ d v Q S r e h => by cases e; exact h _ (S.set i r), fun d ρ ρ' e => by cases e; exact SubO.set⟩
def gNs0 : DGs := fun ds ρ => match ds with
  | [] => some ρ
  | _ => none
def gNsC (dg : DG) (dr : DGs) : DGs := fun ds ρ => match ds with
  | d :: r => (dg d ρ).bind (dr r)
  | [] => none
theorem tdgs_nil : TDGs K gNil gNs0 where
  run := fun g H ρ ρ' σ ds vs Q S r e h => by
    cases ds with
    | nil =>
      cases e
      simp only [RpL] at r
      exact ⟨r, h _ S⟩
    | cons _ _ => cases e
  sub := fun ds ρ ρ' e => by
    cases ds with
    | nil => cases e; exact SubO.refl
    | cons _ _ => cases e
theorem tdgs_cons {tg : TG} {tgs : TGs} {dg : DG} {dgs : DGs} (h1 : TDG K tg dg) (h2 : TDGs K tgs dgs) : TDGs K (gCons tg tgs) (gNsC dg dgs) where
  run := fun g H ρ ρ' σ ds vs Q S r e h => by
    cases ds with
    | nil => cases e
    | cons d ds =>
      simp only [RpL] at r
      obtain ⟨v, r', rfl, r1, r2⟩ := r
      obtain ⟨ρ1, e1, e2⟩ := Option.bind_eq_some_iff.mp e
      exact ⟨v, r', rfl, h1.run g H ρ ρ1 σ d v _ S r1 e1 fun σ1 S1 => h2.run g H ρ1 ρ' σ1 ds r' Q S1 r2 e2 h⟩
  sub := fun ds ρ ρ' e => by
    cases ds with
    | nil => cases e
    | cons d ds =>
      obtain ⟨ρ1, e1, e2⟩ := Option.bind_eq_some_iff.mp e
      exact (h2.sub _ _ _ e2).trans (h1.sub _ _ _ e1)
def gT (n : Nat) (dgs : DGs) : DG := fun d ρ => match d with
  | .tup ds => if ds.length = n then dgs ds ρ else none
  | _ => none
theorem tdg_tup {n : Nat} {tgs : TGs} {dgs : DGs} (h : TDGs K tgs dgs) : TDG K (gTup K n tgs) (gT n dgs) where
  run := fun g H ρ ρ' σ d v Q S r e hq => by
    cases d with
    | tup ds =>
      obtain ⟨a, vs, rfl, q, rl, _⟩ := r.tup_inv
      have e' : (if ds.length = n then dgs ds ρ else none) = some ρ' := e
      by_cases c : ds.length = n
      · rw [if_pos c] at e'
        exact ⟨a, vs, rfl, q, by rw [rl.length]; exact c, h.run g H ρ ρ' σ ds vs Q S rl e' hq⟩
      · rw [if_neg c] at e'
        cases e'
    | _ => cases e
  sub := fun d ρ ρ' e => by
    cases d with
    | tup ds =>
      have e' : (if ds.length = n then dgs ds ρ else none) = some ρ' := e
      by_cases c : ds.length = n
      · rw [if_pos c] at e'
        exact h.sub _ _ _ e'
      · rw [if_neg c] at e'
        cases e'
    | _ => cases e
theorem SR.sub {g0 g : G} {H0 H : Hp} {Ω : Om} {ρ ρ' : Env1} {σ σ' : St} (s : SR K g0 H0 g H Ω ρ σ) (S : Sl K g H ρ' σ') (u : SubO ρ' ρ) : SR K g0 H0 g H Ω ρ' σ' :=
  ⟨S, s.ob, fun i t h1 h2 => s.fresh i t (u i t h1 h2) h2, s.fe⟩
def dAsg (de : DE) (dg : DG) : DS := fun ρ Ω => (de ρ Ω).fl fun d Ω1 => match dg d ρ with
  | some ρ' => .nx ρ' Ω1
  | none => .bad
theorem tds_asg {tg : TG} {dg : DG} (h1 : TD K E te de) (h2 : TDG K tg dg) : TDS K E (tAsg te tg) (dAsg de dg) := fun g0 H0 g H Ω ρ σ D s h =>
  h1 g H Ω ρ σ _ s.sl s.ob (PstS.bind s.fe h fun x Ω1 g1 H1 b f1 o1 r1 h' => by
    cases e : dg x ρ with
    | none => rw [e] at h'; exact h'.elim
    | some ρ' =>
      rw [e] at h'
      have s1 := s.fr f1 o1
      exact h2.run g1 H1 ρ ρ' σ x b _ s1.sl r1 e fun σ' S' => h' g1 H1 σ' GSt.refl (s1.sub S' (h2.sub _ _ _ e)))
/-- a, b = x, y -/
def dPar (i j : Nat) (da : DA) : DS := fun ρ Ω => (da ρ Ω).fl fun ds Ω1 => match ds with
  | [x, y] => .nx ((ρ.set i (.val x)).set j (.val y)) Ω1
  | _ => .bad
theorem tds_par {i j : Nat} {ta : TA} {da : DA} (h1 : TDA K E ta da) : TDS K E (tPar i j ta) (dPar i j da) := fun g0 H0 g H Ω ρ σ D s h =>
  h1 g H Ω ρ σ _ s.sl s.ob (PstS.bind s.fe h fun x Ω1 g1 H1 b f1 o1 r1 h' => by
    match x, r1, h' with
    | [x, y], r1, h' =>
      obtain ⟨v, w, rfl, rx, ry⟩ := r1.two
      have s1 := s.fr f1 o1
      exact ⟨v, w, rfl, h' g1 H1 _ GSt.refl (s1.sub ((s1.sl.set i rx).set j ry) (SubO.set.trans SubO.set))⟩
    | [], _, h' => exact h'.elim
    | [_], _, h' => exact h'.elim
    | _ :: _ :: _ :: _, _, h' => exact h'.elim)

/-! ### while -/
def whileN (dt : DT) (db : DS) : Nat → DS
  | 0 => fun _ _ => .bad
  | n + 1 => fun ρ Ω => (dt ρ Ω).fl fun b Ω1 => if b = true then (db ρ Ω1).then (whileN dt db n) else .nx ρ Ω1
def fuel : Nat := 3000000
def dWhile (dt : DT) (db : DS) : DS := fun ρ Ω => whileN dt db fuel ρ Ω
theorem tds_while (hc : TDT K E tt dt) (hb : TDS K E ts ds) : TDS K E (tWhile tt ts) (dWhile dt ds) := fun g0 H0 g H Ω ρ σ D s h => by
  refine ⟨fun m σ' H' => ∃ g' Ω' ρ', GSt g H g' H' ∧ SR K g0 H0 g' H' Ω' ρ' σ' ∧ PstS K E g0 H0 g' H' D (whileN dt ds m ρ' Ω'), ⟨fuel, g, Ω, ρ, GSt.refl, s, h⟩, ?_⟩
  rintro m σ1 H1 ⟨g1, Ω1, ρ1, f1, s1, h1⟩
  cases m with
  | zero => exact h1.elim
  | succ m =>
    refine hc g1 H1 Ω1 ρ1 σ1 _ s1.sl s1.ob (PstS.bind s1.fe h1 fun x Ω2 g2 H2 b f2 o2 r2 h2 => ?_)
    subst r2
    cases b with
    | true =>
      refine ⟨fun σ' H' => ∃ g' Ω' ρ', GSt g H g' H' ∧ SR K g0 H0 g' H' Ω' ρ' σ' ∧ PstS K E g0 H0 g' H' D (whileN dt ds m ρ' Ω'), fun σ' H' q => ⟨m, Nat.lt_succ_self m, q⟩, ?_⟩
      have h2' : PstS K E g0 H0 g2 H2 D ((ds ρ1 Ω2).then (whileN dt ds m)) := h2
      refine hb g0 H0 g2 H2 Ω2 ρ1 σ1 _ (s1.fr f2 o2) (PstS.ends rfl rfl (PstS.thn (nx := fun σ' H' => ∃ g' Ω' ρ', GSt g H g' H' ∧ SR K g0 H0 g' H' Ω' ρ' σ' ∧ PstS K E g0 H0 g' H' D (whileN dt ds m ρ' Ω')) h2' fun ρ' Ω' g' H' σ' f' s' h' => ?_))
      exact ⟨g', Ω', ρ', (f1.trans f2.toGSt).trans f', s', h'⟩
    | false => exact h2 g2 H2 σ1 GSt.refl (s1.fr f2 o2)

/-! ### what is walked -/
abbrev DI := Env1 → Om → Res (List D)
def WalkD (K : PySem.W.Frag) (g : G) (H : Hp) (items : List D) (J : It) : Prop :=
  ∃ (Gp : Hp → Prop) (Y : Nat → Hp → V → Hp → Prop), L2.Walk J items.length Gp Y ∧ (∀ g1 H1, GSt g H g1 H1 → Gp H1) ∧
    ∀ (i : Nat) d g1 H1 x H2, GSt g H g1 H1 → items[i]? = some d → Y i H1 x H2 → Ext g1 H1 g1 H2 ∧ Rp K g1 H2 d x
def TDI (K : PySem.W.Frag) (E : XK) (ti : TI) (di : DI) : Prop := ∀ g H Ω ρ σ R, Sl K g H ρ σ → Ob K g H Ω → Pst K E g H (WalkD K) R (di ρ Ω) → ti σ H R
structure PDI (X : Cx) (K : PySem.W.Frag) (E : XK) (tg iter : Expr) (ti : TI) (di : DI) : Prop where
  k : X.K = K
  pi : PI X tg iter ti
  td : TDI K E ti di
def asTup (de : DE) : DI := fun ρ Ω => (de ρ Ω).bind fun d Ω1 => match d with
  | .tup ds => .ok ds Ω1
  | _ => .bad
def asLst (de : DE) : DI := fun ρ Ω => (de ρ Ω).bind fun d Ω1 => match d with
  | .lst ds => .ok ds Ω1
  | _ => .bad
def asStr (de : DE) : DI := fun ρ Ω => (de ρ Ω).bind fun d Ω1 => match d with
  | .str l => .ok (l.map fun c => .str [c]) Ω1
  | _ => .bad
theorem tdi_tup (h1 : TD K E te de) : TDI K E (iTup K te) (asTup de) := fun g H Ω ρ σ R S O h =>
  h1 g H Ω ρ σ _ S O (Pst.bind h fun x Ω1 g1 H1 v f1 o1 r1 h' => by
    cases x with
    | tup ds =>
      obtain ⟨a, vs, rfl, q, r, z⟩ := r1.tup_inv
      refine ⟨a, rfl, ⟨vs, q⟩, h' g1 H1 _ Fr.refl o1 ⟨fun H' => SqT K H' a vs, YAt vs, by rw [← r.length]; exact walk_tup, fun g2 H2 f => SqT.step f q, fun i d g2 H2 x H3 f e y => ?_⟩⟩
      obtain ⟨rfl, y⟩ := y
      refine ⟨Ext.refl, ?_⟩
      obtain ⟨w, e1, e2⟩ := r.get e
      rw [y] at e1
      cases e1
      exact Rp.step f _ _ e2
    | _ => exact h'.elim)
theorem tdi_lst (h1 : TD K E te de) : TDI K E (iList K te) (asLst de) := fun g H Ω ρ σ R S O h =>
  h1 g H Ω ρ σ _ S O (Pst.bind h fun x Ω1 g1 H1 v f1 o1 r1 h' => by
    cases x with
    | lst ds =>
      obtain ⟨a, vs, rfl, q, r, z⟩ := r1.lst_inv
      refine ⟨a, rfl, ⟨vs, q.seq⟩, h' g1 H1 _ Fr.refl o1 ⟨fun H' => SqL K H' a vs, YAt vs, by rw [← r.length]; exact walk_list, fun g2 H2 f => (LkL.step f q).seq, fun i d g2 H2 x H3 f e y => ?_⟩⟩
      obtain ⟨rfl, y⟩ := y
      refine ⟨Ext.refl, ?_⟩
      obtain ⟨w, e1, e2⟩ := r.get e
      rw [y] at e1
      cases e1
      exact Rp.step f _ _ e2
    | _ => exact h'.elim)
theorem tdi_str (h1 : TD K E te de) : TDI K E (iStr te) (asStr de) := fun g H Ω ρ σ R S O h =>
  h1 g H Ω ρ σ _ S O (Pst.bind h fun x Ω1 g1 H1 v f1 o1 r1 h' => by
    cases x with
    | str l =>
      obtain ⟨rfl, z, a⟩ := r1.str_inv
      refine ⟨_, rfl, h' g1 H1 _ Fr.refl o1 ⟨fun _ => True, fun i H v H' => H' = H ∧ ∃ c, (⟨l.toArray⟩ : Str).cps[i]? = some c ∧ v = .str ⟨#[c]⟩, ?_, fun _ _ _ => trivial, fun i d g2 H2 x H3 f e y => ?_⟩⟩
      · have w := walk_str (z := ⟨l.toArray⟩)
        rw [show (l.map fun c => D.str [c]).length = (⟨l.toArray⟩ : Str).cps.size by simp]
        exact w
      · obtain ⟨rfl, c, hc, rfl⟩ := y
        refine ⟨Ext.refl, ?_⟩
        have hc' : l[i]? = some c := by simpa using hc
        rw [List.getElem?_map, hc'] at e
        cases e
        exact Rp.str (by show 1 ≤ lim; decide) (asc_get a hc')
    | _ => exact h'.elim)
def rangeL (lo n : Int) : List D := (List.range (n - lo).toNat).map fun (k : Nat) => .int (lo + k)
def big62 (i : Int) : Bool := decide (-(2 ^ 62) ≤ i) && decide (i < 2 ^ 62)
def asR1 (da : DA) : DI := fun ρ Ω => (da ρ Ω).bind fun d Ω1 => match d with
  | [.int n] => if big62 n = true then .ok (rangeL 0 n) Ω1 else .bad
  | _ => .bad
def asR2 (da : DA) : DI := fun ρ Ω => (da ρ Ω).bind fun d Ω1 => match d with
  | [.int a, .int n] => if (big62 a && big62 n) = true then .ok (rangeL a n) Ω1 else .bad
  | _ => .bad
theorem walkD_range {g : G} {H : Hp} (lo n : Int) : WalkD K g H (rangeL lo n) (Itr lo (n - lo).toNat) := by
  refine ⟨fun _ => True, YFn fun i => .int (lo + (i : Nat)), ?_, fun _ _ _ => trivial, fun i d g2 H2 x H3 f e y => ?_⟩
  · have w := walk_range (lo := lo) (n := (n - lo).toNat)
    rw [show (rangeL lo n).length = (n - lo).toNat by simp [rangeL]]
    exact w
  · obtain ⟨rfl, rfl⟩ := y
    refine ⟨Ext.refl, ?_⟩
    unfold rangeL at e
    rw [List.getElem?_map] at e
    cases q : (List.range (n - lo).toNat)[i]? with
    | none => rw [q] at e; cases e
    | some k =>
      rw [q] at e
      obtain ⟨hk, e2⟩ := List.getElem?_eq_some_iff.mp q
      rw [List.getElem_range] at e2
      subst e2
      cases e
      exact Rp.int
theorem big62_iff {i : Int} (h : big62 i = true) : -(2 ^ 62) ≤ i ∧ i < 2 ^ 62 := by
  obtain ⟨a, b⟩ := Bool.and_eq_true_iff.mp h
  exact ⟨of_decide_eq_true a, of_decide_eq_true b⟩
theorem tdi_r1 {ta : TA} {da : DA} (h1 : TDA K E ta da) : TDI K E (iRng1 ta) (asR1 da) := fun g H Ω ρ σ R S O h =>
  h1 g H Ω ρ σ _ S O (Pst.bind h fun x Ω1 g1 H1 v f1 o1 r1 h' => by
    have key : ∃ n, x = [.int n] ∧ big62 n = true := by
      revert h'
      split
      · split
        · rename_i n c
          exact fun _ => ⟨n, rfl, c⟩
        · exact fun h => h.elim
      · exact fun h => h.elim
    obtain ⟨n, rfl, c⟩ := key
    obtain ⟨v, rfl, r⟩ := r1.one
    have h'' : Pst K E g1 H1 (WalkD K) R (if big62 n = true then .ok (rangeL 0 n) Ω1 else .bad) := h'
    rw [if_pos c] at h''
    obtain ⟨c1, c2⟩ := big62_iff c
    refine ⟨n, by rw [r.int_inv], c1, c2, ?_⟩
    have w := walkD_range (K := K) (g := g1) (H := H1) 0 n
    rw [Int.sub_zero] at w
    exact h'' g1 H1 _ Fr.refl o1 w)
theorem tdi_r2 {ta : TA} {da : DA} (h1 : TDA K E ta da) : TDI K E (iRng2 ta) (asR2 da) := fun g H Ω ρ σ R S O h =>
  h1 g H Ω ρ σ _ S O (Pst.bind h fun x Ω1 g1 H1 v f1 o1 r1 h' => by
    have key : ∃ a n, x = [.int a, .int n] ∧ (big62 a && big62 n) = true := by
      revert h'
      split
      · split
        · rename_i a n c
          exact fun _ => ⟨a, n, rfl, c⟩
        · exact fun h => h.elim
      · exact fun h => h.elim
    obtain ⟨a, n, rfl, c⟩ := key
    have h'' : Pst K E g1 H1 (WalkD K) R (if (big62 a && big62 n) = true then .ok (rangeL a n) Ω1 else .bad) := h'
    rw [if_pos c] at h''
    obtain ⟨ca, cn⟩ := Bool.and_eq_true_iff.mp c
    obtain ⟨v, w, rfl, rv, rw'⟩ := r1.two
    refine ⟨a, n, by rw [rv.int_inv, rw'.int_inv], ⟨(big62_iff ca).1, (big62_iff ca).2, (big62_iff cn).1, (big62_iff cn).2⟩, ?_⟩
    exact h'' g1 H1 _ Fr.refl o1 (walkD_range a n))
def enumL (ds : List D) : List D := ds.zipIdx.map fun p => .tup [.int (p.2 : Nat), p.1]
theorem enumL_get {ds : List D} {i : Nat} {d : D} (e : (enumL ds)[i]? = some d) : ∃ x, ds[i]? = some x ∧ d = .tup [.int (i : Nat), x] := by
  unfold enumL at e
  rw [List.getElem?_map, List.getElem?_zipIdx] at e
  cases q : ds[i]? with
  | none => rw [q] at e; cases e
  | some x =>
    rw [q] at e
    simp at e
    exact ⟨x, rfl, e.symm⟩
theorem mk2 {g1 : G} {H1 : Hp} {x y : V} {d e : D} {T : Addr} (r1 : Rp K g1 H1 d x) (r2 : Rp K g1 H1 e y) (hT : H1 T = none) : Ext g1 H1 g1 (upd H1 T (.tup [x, y])) ∧ Rp K g1 (upd H1 T (.tup [x, y])) (.tup [d, e]) (.ref T) := by
  have ex : Ext g1 H1 g1 (upd H1 T (.tup [x, y])) := Ext.new hT
  refine ⟨ex, ?_⟩
  simp only [Rp]
  exact ⟨T, _, rfl, upd_same, RpL.cons (Rp.step ex.fr.toGSt _ _ r1) (RpL.cons (Rp.step ex.fr.toGSt _ _ r2) RpL.nil), by show 2 ≤ lim; decide⟩
def asEnL (da : DA) : DI := fun ρ Ω => (da ρ Ω).bind fun d Ω1 => match d with
  | [.lst ds] => .ok (enumL ds) Ω1
  | _ => .bad
theorem tdi_enL {ta : TA} {da : DA} (h1 : TDA K E ta da) : TDI K E (iEnum K ta) (asEnL da) := fun g H Ω ρ σ R S O h =>
  h1 g H Ω ρ σ _ S O (Pst.bind h fun x Ω1 g1 H1 v f1 o1 r1 h' => by
    have key : ∃ ds, x = [.lst ds] := by
      revert h'
      split
      · exact fun _ => ⟨_, rfl⟩
      · exact fun h => h.elim
    obtain ⟨ds, rfl⟩ := key
    obtain ⟨v, rfl, rv⟩ := r1.one
    obtain ⟨a, vs, rfl, q, r, z⟩ := rv.lst_inv
    refine ⟨a, vs, rfl, q.seq, h' g1 H1 _ Fr.refl o1 ⟨fun H' => SqL K H' a vs, YPair (fun i => some (.int (i : Nat))) (fun i => vs[i]?), ?_, fun g2 H2 f => (LkL.step f q).seq, fun i d g2 H2 x H3 f e y => ?_⟩⟩
    · have w := walk_enum (K := K) (a := a) (xs := vs)
      rw [show (enumL ds).length = vs.length by rw [r.length]; simp [enumL]]
      exact w
    · obtain ⟨T, x1, y1, rfl, hT, rfl, hx, hy⟩ := y
      obtain ⟨d1, e1, rfl⟩ := enumL_get e
      cases hx
      obtain ⟨w, e3, e4⟩ := r.get e1
      have hy' : vs[i]? = some y1 := hy
      rw [hy'] at e3
      cases e3
      exact mk2 Rp.int (Rp.step f _ _ e4) hT)

/-! ### for -/
def forN (dg : DG) (db : DS) : List D → DS
  | [] => fun ρ Ω => .nx ρ Ω
  | x :: xs => fun ρ Ω => match dg x ρ with
    | some ρ1 => (db ρ1 Ω).then (forN dg db xs)
    | none => .bad
def dFor (di : DI) (dg : DG) (db : DS) : DS := fun ρ Ω => (di ρ Ω).fl fun items Ω1 => forN dg db items ρ Ω1
theorem tds_for {ti : TI} {di : DI} {tg : TG} {dg : DG} (hi : TDI K E ti di) (hg : TDG K tg dg) (hb : TDS K E ts ds) : TDS K E (tFor ti tg ts) (dFor di dg ds) := fun g0 H0 g H Ω ρ σ D s h =>
  hi g H Ω ρ σ _ s.sl s.ob (PstS.bind s.fe h fun items Ω1 g1 H1 J f1 o1 wd h' => by
    obtain ⟨Gp, Y, w, hG, hY⟩ := wd
    refine for_it w (fun i σ' H' => ∃ g' Ω' ρ', GSt g1 H1 g' H' ∧ SR K g0 H0 g' H' Ω' ρ' σ' ∧ PstS K E g0 H0 g' H' D (forN dg ds (items.drop i) ρ' Ω')) ⟨g1, Ω1, ρ, GSt.refl, s.fr f1 o1, h'⟩ (fun i σ' H' _ ⟨g', _, _, f', _, _⟩ => hG g' H' f') ?_ ?_
    · rintro i x σ2 H2 H3 hi2 ⟨g2, Ω2, ρ2, f2, s2, h2⟩ y
      have hd : items[i]? = some (items[i]'hi2) := List.getElem?_eq_getElem hi2
      obtain ⟨ex, rx⟩ := hY i _ g2 H2 x H3 f2 hd y
      have h2' : PstS K E g0 H0 g2 H2 D (forN dg ds (items[i]'hi2 :: items.drop (i + 1)) ρ2 Ω2) := by
        rw [← List.drop_eq_getElem_cons hi2]
        exact h2
      have s3 := s2.fr ex.fr (s2.ob.ext ex)
      have h3 : PstS K E g0 H0 g2 H3 D (match dg (items[i]'hi2) ρ2 with | some ρ1 => (ds ρ1 Ω2).then (forN dg ds (items.drop (i + 1))) | none => .bad) := PstS.st ex.fr.toGSt h2'
      cases e : dg (items[i]'hi2) ρ2 with
      | none => rw [e] at h3; exact h3.elim
      | some ρ3 =>
        rw [e] at h3
        refine hg.run g2 H3 ρ2 ρ3 σ2 _ x _ s3.sl rx e fun σ3 S3 => ?_
        refine hb g0 H0 g2 H3 Ω2 ρ3 σ3 _ (s3.sub S3 (hg.sub _ _ _ e)) (PstS.ends rfl rfl (PstS.thn (nx := fun σ' H' => ∃ g' Ω' ρ', GSt g1 H1 g' H' ∧ SR K g0 H0 g' H' Ω' ρ' σ' ∧ PstS K E g0 H0 g' H' D (forN dg ds (items.drop (i + 1)) ρ' Ω')) h3 fun ρ' Ω' g' H' σ' f' s' q => ?_))
        exact ⟨g', Ω', ρ', (f2.trans ex.fr.toGSt).trans f', s', q⟩
    · rintro σ2 H2 ⟨g2, Ω2, ρ2, f2, s2, h2⟩
      rw [List.drop_length] at h2
      exact h2 g2 H2 σ2 GSt.refl s2)
end
end Fm
/-! Fm, part 5: a list that is changed; comprehensions; own lists; defs and their calls. -/
namespace Fm
open PySem PySem.Spec L2
open PyProof.Rows hiding St

/-! ### an object of one's own is changed -/
def Quiet : Own → Prop
  | .slot _ => True
  | .tmp => True
  | _ => False
section
variable {K : PySem.W.Frag} {E : XK} {g g1 : G} {H H1 : Hp} {a : Addr} {o o' : HO} {w : Own}
theorem GSt.upd (h : H a = some o) (hm : (∀ xs, o ≠ .tup xs) ∧ ∀ x u, o ≠ .frz x u) (hw : g.own a = some w) (q : w ≠ .lock) : GSt g H g (L2.upd H a o') where
  own := fun _ _ => rfl
  adr := fun _ _ _ => rfl
  tup := fun b xs e => by
    rw [upd_ne (ne_of e h fun z => hm.1 xs z.symm)]
    exact e
  frz := fun b x u e => by
    rw [upd_ne (ne_of e h fun z => hm.2 x u z.symm)]
    exact e
  lock := fun b _ e => by
    rw [upd_ne]
    rintro rfl
    rw [hw] at e
    cases e
    exact q rfl
  dom := fun b e => by
    by_cases hb : b = a
    · subst hb; rw [upd_same]; exact fun z => nomatch z
    · rw [upd_ne hb]; exact e
theorem FdR.upd (f : GSt g H g (L2.upd H a o')) (hw : g.own a = some w) (q : Quiet w) {i : Nat} {x : Str} : ∀ {d : Fd} {v : V}, FdR K g H i x d v → FdR K g (L2.upd H a o') i x d v
  | .val d, v, h => Rp.step f d v h
  | .own ds, v, h => by
    obtain ⟨e1, e2, vs, e3, r, z⟩ := h
    refine ⟨e1, e2, vs, ?_, RpL.step f ds vs r, z⟩
    rw [upd_ne]
    · exact e3
    · intro e
      rw [e, hw] at e2
      cases e2
      exact q
theorem FdsR.upd (f : GSt g H g (L2.upd H a o')) (hw : g.own a = some w) (q : Quiet w) {i : Nat} : ∀ {fs : List (Str × Fd)} {vs : List (Str × V)}, FdsR K g H i fs vs → FdsR K g (L2.upd H a o') i fs vs
  | [], _, h => h
  | (_, _) :: fs, vs, h => by
    obtain ⟨v, r, e1, h1, h2⟩ := h
    exact ⟨v, r, e1, h1.upd f hw q, FdsR.upd f hw q h2⟩
theorem Ob.upd (f : GSt g H g (L2.upd H a o')) (hw : g.own a = some w) (q : Quiet w) {Ω : Om} (h : Ob K g H Ω) : Ob K g (L2.upd H a o') Ω := ⟨fun i s e => by
  obtain ⟨h1, h2⟩ := h.at_ i s e
  have ne : g.adr (.obj i) ≠ a := fun e => by
    rw [e, hw] at h1
    cases h1
    exact q
  refine ⟨h1, ?_⟩
  cases s with
  | tab =>
    obtain ⟨k0, ps, k1, k2, k3⟩ := h2
    refine ⟨k0, ps, by rw [upd_ne ne]; exact k1, k2, fun pos cv z => ?_⟩
    obtain ⟨c, e1, e2, e3⟩ := k3 pos cv z
    refine ⟨c, e1, ?_, e3⟩
    rw [upd_ne]
    · exact e2
    · intro e
      rw [e, hw] at e3
      cases e3
      exact q
  | ins c fs =>
    obtain ⟨dx, vs, k1, k2, k3⟩ := h2
    exact ⟨dx, vs, by rw [upd_ne ne]; exact k1, k2.upd f hw q, k3⟩
  | dk fs =>
    obtain ⟨vs, k1, k2, k3⟩ := h2
    exact ⟨vs, by rw [upd_ne ne]; exact k1, k2.upd f hw q, k3⟩
  | ls ds =>
    obtain ⟨vs, k1, k2, k3⟩ := h2
    exact ⟨vs, by rw [upd_ne ne]; exact k1, RpL.step f _ _ k2, k3⟩
  | tp ds =>
    obtain ⟨vs, ob, k1, k0, k2, k3⟩ := h2
    exact ⟨vs, ob, by rw [upd_ne ne]; exact k1, k0, RpL.step f _ _ k2, k3⟩, h.lt⟩
/-- seen from before the object was there -/
theorem Fr.mutNew (f : Fr g1 H1 g H) (hn : H1 a = none) : Fr g1 H1 g (L2.upd H a o') := by
  have ne : ∀ b, H1 b ≠ none → b ≠ a := fun b h e => h (by rw [e]; exact hn)
  exact ⟨⟨f.own, f.adr, fun b xs e => by rw [upd_ne (ne b (ne_some e))]; exact f.tup b xs e, fun b x u e => by rw [upd_ne (ne b (ne_some e))]; exact f.frz b x u e,
    fun b e l => by rw [upd_ne (ne b e)]; exact f.lock b e l, fun b e => by rw [upd_ne (ne b e)]; exact f.dom b e⟩, f.slot, fun b x e h1 h2 => by rw [upd_ne (ne b (ne_some e))]; exact f.same b x e h1 h2⟩
theorem Fr.markNew (f : Fr g1 H1 g H) (hn : H1 a = none) (w : Own) : Fr g1 H1 (g.put a w) H := by
  have ne : ∀ b, H1 b ≠ none → b ≠ a := fun b h e => h (by rw [e]; exact hn)
  exact ⟨⟨fun b e => by rw [G.put_ne (ne b e)]; exact f.own b e, f.adr, f.tup, f.frz, f.lock, f.dom⟩, f.slot, f.same⟩
end
/-! another mark at an object that nothing leans on -/
/-- the same marks, but for the passing ones -/
structure Gh (g g' : G) : Prop where
  adr : ∀ o, (∀ i, o ≠ .slot i) → g'.adr o = g.adr o
  own : ∀ b w, g.own b = some w → w ≠ .tmp → (∀ i, w ≠ .slot i) → g'.own b = some w
  nob : ∀ b i, g'.own b = some (.obj i) → g.own b = some (.obj i)
section
variable {K : PySem.W.Frag} {E : XK} {g g' g1 : G} {H H1 : Hp} {a : Addr}
theorem Gh.l (k : Gh g g') {b : Addr} (e : g.own b = some .lock) : g'.own b = some .lock := k.own b _ e (fun z => by cases z) (fun _ z => by cases z)
theorem Gh.o (k : Gh g g') {b : Addr} {i : Nat} (e : g.own b = some (.obj i)) : g'.own b = some (.obj i) := k.own b _ e (fun z => by cases z) (fun _ z => by cases z)
theorem Gh.f (k : Gh g g') {b : Addr} {i : Nat} {f : Str} (e : g.own b = some (.fld i f)) : g'.own b = some (.fld i f) := k.own b _ e (fun z => by cases z) (fun _ z => by cases z)
theorem Gh.ao (k : Gh g g') (i : Nat) : g'.adr (.obj i) = g.adr (.obj i) := k.adr _ (fun _ z => by cases z)
theorem Gh.af (k : Gh g g') (i : Nat) (f : Str) : g'.adr (.fld i f) = g.adr (.fld i f) := k.adr _ (fun _ z => by cases z)
mutual
theorem Rp.gh (k : Gh g g') : ∀ (d : D) (v : V), Rp K g H d v → Rp K g' H d v
  | .non, _, h => by simpa only [Rp] using h
  | .bl b, _, h => by simpa only [Rp] using h
  | .int i, _, h => by simpa only [Rp] using h
  | .str l, _, h => by simpa only [Rp] using h
  | .tup ds, v, h => by
    simp only [Rp] at h ⊢
    obtain ⟨a, vs, e, q, r, z⟩ := h
    exact ⟨a, vs, e, q, RpL.gh k ds vs r, z⟩
  | .lst ds, v, h => by
    simp only [Rp] at h ⊢
    obtain ⟨a, vs, e, q, r, z⟩ := h
    exact ⟨a, vs, e, ⟨q.1, k.l q.2⟩, RpL.gh k ds vs r, z⟩
  | .obj i, v, h => by
    simp only [Rp] at h ⊢
    rw [k.ao]
    exact ⟨h.1, k.o h.2.1, h.2.2⟩
  | .scr ns, v, h => by
    simp only [Rp] at h ⊢
    obtain ⟨a, e, q⟩ := h
    refine ⟨a, e, ?_⟩
    rcases q with ⟨q1, q2⟩ | q | q
    · exact .inl ⟨q1, k.l q2⟩
    · exact .inr (.inl q)
    · exact .inr (.inr q)
theorem RpL.gh (k : Gh g g') : ∀ (ds : List D) (vs : List V), RpL K g H ds vs → RpL K g' H ds vs
  | [], _, h => by simpa only [RpL] using h
  | d :: ds, vs, h => by
    simp only [RpL] at h ⊢
    obtain ⟨v, r, e, h1, h2⟩ := h
    exact ⟨v, r, e, Rp.gh k d v h1, RpL.gh k ds r h2⟩
end
theorem FdR.gh (k : Gh g g') {i : Nat} {x : Str} : ∀ {d : Fd} {v : V}, FdR K g H i x d v → FdR K g' H i x d v
  | .val d, v, h => Rp.gh k d v h
  | .own ds, v, h => by
    obtain ⟨e1, e2, vs, e3, r, z⟩ := h
    have ea := k.af i x
    refine ⟨by rw [ea]; exact e1, by rw [ea]; exact k.f e2, vs, by rw [ea]; exact e3, RpL.gh k ds vs r, z⟩
theorem FdsR.gh (k : Gh g g') {i : Nat} : ∀ {fs : List (Str × Fd)} {vs : List (Str × V)}, FdsR K g H i fs vs → FdsR K g' H i fs vs
  | [], _, h => h
  | (_, _) :: fs, vs, h => by
    obtain ⟨v, r, e1, h1, h2⟩ := h
    exact ⟨v, r, e1, h1.gh k, FdsR.gh k h2⟩
theorem Ob.gh (k : Gh g g') {Ω : Om} (h : Ob K g H Ω) : Ob K g' H Ω := ⟨fun i s e => by
  obtain ⟨h1, h2⟩ := h.at_ i s e
  have ea := k.ao i
  refine ⟨by rw [ea]; exact k.o h1, ?_⟩
  cases s with
  | tab =>
    obtain ⟨k0, ps, k1, k2, k3⟩ := h2
    refine ⟨by rw [ea]; exact k0, ps, by rw [ea]; exact k1, k2, fun pos cv z => ?_⟩
    obtain ⟨c, e1, e2, e3⟩ := k3 pos cv z
    exact ⟨c, e1, e2, k.l e3⟩
  | ins c fs =>
    obtain ⟨dx, vs, k1, k2, k3⟩ := h2
    exact ⟨dx, vs, by rw [ea]; exact k1, k2.gh k, k3⟩
  | dk fs =>
    obtain ⟨vs, k1, k2, k3⟩ := h2
    exact ⟨vs, by rw [ea]; exact k1, k2.gh k, k3⟩
  | ls ds =>
    obtain ⟨vs, k1, k2, k3⟩ := h2
    exact ⟨vs, by rw [ea]; exact k1, RpL.gh k _ _ k2, k3⟩
  | tp ds =>
    obtain ⟨vs, ob, k1, k0, k2, k3⟩ := h2
    exact ⟨vs, ob, by rw [ea]; exact k1, k0, RpL.gh k _ _ k2, k3⟩, fun a i e => h.lt a i (k.nob a i e)⟩
theorem Gh.lock (hw : g.own a = some .tmp) : Gh g (g.put a .lock) := ⟨fun _ _ => rfl, fun b w e h _ => by
  by_cases hb : b = a
  · subst hb
    rw [hw] at e
    cases e
    exact absurd rfl h
  · rw [G.put_ne hb]
    exact e, put_nob fun _ z => by cases z⟩
end

/-! ### comprehensions -/
def wipeD (ρ : Env1) : List Nat → Env1
  | [] => ρ
  | v :: vs => (wipeD ρ vs).set v .un
theorem Sl.wipe {K : PySem.W.Frag} {g : G} {H : Hp} {ρ : Env1} {σ : St} (s : Sl K g H ρ σ) : ∀ vs : List Nat, Sl K g H (wipeD ρ vs) (L2.wipe σ vs)
  | [] => s
  | v :: vs => (Sl.wipe s vs).set_un v none
theorem wipe_get {σ : St} {i : Nat} : ∀ {vs : List Nat}, i ∈ vs → i < σ.length → (L2.wipe σ vs)[i]? = some none
  | [], h, _ => absurd h (by simp)
  | v :: vs, h, hl => by
    unfold L2.wipe
    by_cases e : v = i
    · subst e
      rw [List.getElem?_set_self (by rw [wipe_length]; exact hl)]
    · rw [List.getElem?_set_ne e]
      exact wipe_get ((List.mem_cons.mp h).resolve_left fun z => e z.symm) hl
theorem wipe_ext {σ τ : St} {vs : List Nat} (hl : σ.length = τ.length) (h : ∀ i, i ∉ vs → σ[i]? = τ[i]?) : L2.wipe σ vs = L2.wipe τ vs := by
  refine List.ext_getElem? fun i => ?_
  by_cases hi : i ∈ vs
  · by_cases hz : i < σ.length
    · rw [wipe_get hi hz, wipe_get hi (by omega)]
    · rw [List.getElem?_eq_none (by rw [wipe_length]; omega), List.getElem?_eq_none (by rw [wipe_length]; omega)]
  · rw [wipe_out hi, wipe_out hi]
    exact h i hi
theorem wipe_set {σ : St} {vs : List Nat} {j : Nat} {o : Option V} (h : j ∈ vs) : L2.wipe (σ.set j o) vs = L2.wipe σ vs :=
  wipe_ext (by simp) fun i hi => List.getElem?_set_ne (by rintro rfl; exact hi h)
theorem wipe_wipe {σ : St} {vs : List Nat} : L2.wipe (L2.wipe σ vs) vs = L2.wipe σ vs := wipe_ext (by rw [wipe_length]) fun i hi => wipe_out hi
/-- a target that stores to the slots vs alone -/
def WG (tg : TG) (vs : List Nat) : Prop := ∀ x σ H Q, tg x σ H Q → tg x σ H fun σ2 H2 => L2.wipe σ2 vs = L2.wipe σ vs ∧ Q σ2 H2
def WGs (tg : TGs) (vs : List Nat) : Prop := ∀ x σ H Q, tg x σ H Q → tg x σ H fun σ2 H2 => L2.wipe σ2 vs = L2.wipe σ vs ∧ Q σ2 H2
theorem wg_name {i : Nat} {vs : List Nat} (h : i ∈ vs) : WG (gName i) vs := fun x σ H Q q => ⟨wipe_set h, q⟩
theorem wgs_nil {vs : List Nat} : WGs gNil vs := fun x σ H Q q => ⟨q.1, rfl, q.2⟩
theorem gmono {tg : TG} {vs : List Nat} {tgs : TGs} (h1 : WG tg vs) (h2 : WGs tgs vs) (m1 : ∀ x σ H Q Q', tg x σ H Q → (∀ σ' H', Q σ' H' → Q' σ' H') → tg x σ H Q') (m2 : ∀ x σ H Q Q', tgs x σ H Q → (∀ σ' H', Q σ' H' → Q' σ' H') → tgs x σ H Q') : WGs (gCons tg tgs) vs := fun x σ H Q q => by
  obtain ⟨v, r, e, q⟩ := q
  refine ⟨v, r, e, m1 v σ H _ _ (h1 v σ H _ q) fun σ1 H1 ⟨e1, q1⟩ => m2 r σ1 H1 _ _ (h2 r σ1 H1 _ q1) fun σ2 H2 ⟨e2, q2⟩ => ⟨e2.trans e1, q2⟩⟩
/-- targets in short: all that is asked of one that a comprehension has -/
structure TGok (tg : TG) (vs : List Nat) : Prop where
  wg : WG tg vs
  mono : ∀ x σ H Q Q', tg x σ H Q → (∀ σ' H', Q σ' H' → Q' σ' H') → tg x σ H Q'
structure TGsok (tg : TGs) (vs : List Nat) : Prop where
  wg : WGs tg vs
  mono : ∀ x σ H Q Q', tg x σ H Q → (∀ σ' H', Q σ' H' → Q' σ' H') → tg x σ H Q'
theorem tgok_name {i : Nat} {vs : List Nat} (h : i ∈ vs) : TGok (gName i) vs := ⟨wg_name h, fun _ _ _ _ _ q k => k _ _ q⟩
theorem tgsok_nil {vs : List Nat} : TGsok gNil vs := ⟨wgs_nil, fun _ _ _ _ _ q k => ⟨q.1, k _ _ q.2⟩⟩
theorem tgsok_cons {tg : TG} {tgs : TGs} {vs : List Nat} (h1 : TGok tg vs) (h2 : TGsok tgs vs) : TGsok (gCons tg tgs) vs :=
  ⟨gmono h1.wg h2.wg h1.mono h2.mono, fun x σ H Q Q' q k => by
    obtain ⟨v, r, e, q⟩ := q
    exact ⟨v, r, e, h1.mono v σ H _ _ q fun σ1 H1 q1 => h2.mono r σ1 H1 _ _ q1 k⟩⟩
theorem tgok_tup {K : PySem.W.Frag} {n : Nat} {tgs : TGs} {vs : List Nat} (h : TGsok tgs vs) : TGok (gTup K n tgs) vs :=
  ⟨fun x σ H Q q => by
    obtain ⟨a, xs, e1, e2, e3, q⟩ := q
    exact ⟨a, xs, e1, e2, e3, h.wg xs σ H Q q⟩, fun x σ H Q Q' q k => by
    obtain ⟨a, xs, e1, e2, e3, q⟩ := q
    exact ⟨a, xs, e1, e2, e3, h.mono xs σ H _ _ q k⟩⟩

def lcN (dg : DG) (dt : DT) (de : DE) (ρ : Env1) : List D → List D → Om → Res (List D)
  | [], acc, Ω => .ok acc Ω
  | x :: xs, acc, Ω => match dg x ρ with
    | some ρ1 => (dt ρ1 Ω).bind fun b Ω1 => if b = true then (de ρ1 Ω1).bind fun y Ω2 => lcN dg dt de ρ xs (acc ++ [y]) Ω2 else lcN dg dt de ρ xs acc Ω1
    | none => .bad
def dLc (di : DI) (dg : DG) (dt : DT) (de : DE) (vs : List Nat) : DE := fun ρ Ω => (di ρ Ω).bind fun items Ω1 =>
  if items.length ≤ lim then (lcN dg dt de (wipeD ρ vs) items [] Ω1).bind fun ys Ω2 => .ok (.lst ys) Ω2 else .bad
def dYes : DT := fun _ Ω => .ok true Ω
theorem tdt_yes {K : PySem.W.Frag} {E : XK} : TDT K E tYes dYes := fun g H Ω ρ σ Q S O h => h g H true Fr.refl O rfl
theorem Pst.bind' {K : PySem.W.Frag} {E : XK} {g1 g : G} {H1 H : Hp} {α β γ δ : Type} {rep : G → Hp → γ → δ → Prop} {Q : δ → Hp → Prop} {rep1 : G → Hp → α → β → Prop} {Q1 : β → Hp → Prop} {f : α → Om → Res γ} (fr : Fr g1 H1 g H) :
    ∀ {r : Res α}, Pst K E g1 H1 rep Q (r.bind f) → (∀ x Ω2 g2 H2 b, Fr g H g2 H2 → Ob K g2 H2 Ω2 → rep1 g2 H2 x b → Pst K E g1 H1 rep Q (f x Ω2) → Q1 b H2) → Pst K E g H rep1 Q1 r
  | .ok a Ω2, h, k => fun g2 H2 b f2 o r => k a Ω2 g2 H2 b f2 o r h
  | .exc _ _, h, _ => fun g2 H2 f2 o => h g2 H2 (fr.trans f2) o
  | .bad, h, _ => h
section
variable {K : PySem.W.Frag} {E : XK} {ti : TI} {di : DI} {tg : TG} {dg : DG} {tt : TT} {dt : DT} {te : TE} {de : DE} {vs : List Nat}
theorem td_lc (hi : TDI K E ti di) (hg : TDG K tg dg) (hw : TGok tg vs) (ht : TDT K E tt dt) (he : TD K E te de) : TD K E (tLc ti tg tt te vs) (dLc di dg dt de vs) := fun g H Ω ρ σ Q S O h =>
  hi g H Ω ρ σ _ S O (Pst.bind h fun items Ω1 g1 H1 J f1 o1 wd h1 => by
    by_cases hz : items.length ≤ lim
    case neg =>
      rw [if_neg hz] at h1
      exact h1.elim
    rw [if_pos hz] at h1
    obtain ⟨Gp, Y, w, hG, hY⟩ := wd
    intro A hA
    have S1 : Sl K g1 H1 (wipeD ρ vs) (L2.wipe σ vs) := (S.fr f1).wipe vs
    refine lc_it w (fun i H' => ∃ g' Ω' acc av, Fr g1 H1 g' H' ∧ Ob K g' H' Ω' ∧ H' A = some (.lst av) ∧ g'.own A = some .tmp ∧ RpL K g' H' acc av ∧ acc.length ≤ i ∧
        Pst K E g1 H1 (Rp K) Q ((lcN dg dt de (wipeD ρ vs) (items.drop i) acc Ω').bind fun ys Ω2 => .ok (.lst ys) Ω2))
      ⟨g1.put A .tmp, Ω1, [], [], (Ext.newL .tmp hA).fr, o1.ext (Ext.newL .tmp hA), upd_same, G.put_same, RpL.nil, Nat.le_refl 0, h1⟩ (fun i H' _ ⟨g', _, _, _, f', _⟩ => hG g' H' f'.toGSt) ?_ ?_
    · rintro i x H2 H3 hi2 ⟨g2, Ω2, acc, av, f2, o2, hD, wD, ra, za, h2⟩ y
      have hd : items[i]? = some (items[i]'hi2) := List.getElem?_eq_getElem hi2
      obtain ⟨ex, rx⟩ := hY i _ g2 H2 x H3 f2.toGSt hd y
      have h2' : Pst K E g1 H1 (Rp K) Q ((lcN dg dt de (wipeD ρ vs) (items[i]'hi2 :: items.drop (i + 1)) acc Ω2).bind fun ys Ω2 => .ok (.lst ys) Ω2) := by
        rw [← List.drop_eq_getElem_cons hi2]
        exact h2
      unfold lcN at h2'
      have f3 : Fr g1 H1 g2 H3 := f2.trans ex.fr
      have o3 := o2.ext ex
      have hD3 : H3 A = some (.lst av) := ex.same A _ hD
      have ra3 : RpL K g2 H3 acc av := RpL.step ex.fr.toGSt _ _ ra
      cases e : dg (items[i]'hi2) (wipeD ρ vs) with
      | none => rw [e] at h2'; exact h2'.elim
      | some ρ3 =>
        rw [e] at h2'
        refine hw.mono _ _ _ _ _ (hw.wg _ _ _ _ (hg.run g2 H3 (wipeD ρ vs) ρ3 (L2.wipe σ vs) _ x (fun σ2 H4 => Sl K g2 H3 ρ3 σ2 ∧ H4 = H3) (S1.fr f3) rx e fun σ' S' => ⟨S', rfl⟩)) ?_
        rintro σ2 H4 ⟨ew, S4, rfl⟩
        refine ⟨by rw [ew, wipe_wipe], ?_⟩
        have h3 : Pst K E g1 H1 (Rp K) Q (((dt ρ3 Ω2).bind fun b Ω1 => if b = true then (de ρ3 Ω1).bind fun y Ω2 => lcN dg dt de (wipeD ρ vs) (items.drop (i + 1)) (acc ++ [y]) Ω2 else lcN dg dt de (wipeD ρ vs) (items.drop (i + 1)) acc Ω1).bind fun ys Ω2 => .ok (.lst ys) Ω2) := h2'
        have h3' : Pst K E g1 H1 (Rp K) Q ((dt ρ3 Ω2).bind fun b Ω1 => (if b = true then (de ρ3 Ω1).bind fun y Ω2 => lcN dg dt de (wipeD ρ vs) (items.drop (i + 1)) (acc ++ [y]) Ω2 else lcN dg dt de (wipeD ρ vs) (items.drop (i + 1)) acc Ω1).bind fun ys Ω2 => .ok (.lst ys) Ω2) := by
          cases q : dt ρ3 Ω2 with
          | ok b Ωx => rw [q] at h3; exact h3
          | exc n Ωx => rw [q] at h3; exact h3
          | bad => rw [q] at h3; exact h3
        refine ht g2 H4 Ω2 ρ3 σ2 _ S4 o3 (Pst.bind' f3 h3' fun b Ω3 g4 H5 b' f4 o4 eb h4 => ?_)
        subst eb
        have same4 : ∀ {g4 : G} {H5 : Hp}, Fr g2 H4 g4 H5 → H5 A = some (.lst av) ∧ g4.own A = some .tmp := fun {g4 H5} f4 =>
          ⟨f4.same A _ hD3 (by rw [wD]; exact fun _ z => by cases z) (by rw [wD]; exact fun _ _ z => by cases z), by rw [f4.own A (ne_some hD3)]; exact wD⟩
        cases b' with
        | false =>
          obtain ⟨d1, d2⟩ := same4 f4
          exact ⟨g4, Ω3, acc, av, f3.trans f4, o4, d1, d2, RpL.step f4.toGSt _ _ ra3, by omega, h4⟩
        | true =>
          have h5 : Pst K E g1 H1 (Rp K) Q (((de ρ3 Ω3).bind fun y Ω2 => lcN dg dt de (wipeD ρ vs) (items.drop (i + 1)) (acc ++ [y]) Ω2).bind fun ys Ω2 => .ok (.lst ys) Ω2) := h4
          have h5' : Pst K E g1 H1 (Rp K) Q ((de ρ3 Ω3).bind fun y Ω2 => (lcN dg dt de (wipeD ρ vs) (items.drop (i + 1)) (acc ++ [y]) Ω2).bind fun ys Ω2 => .ok (.lst ys) Ω2) := by
            cases q : de ρ3 Ω3 with
            | ok b Ωx => rw [q] at h5; exact h5
            | exc n Ωx => rw [q] at h5; exact h5
            | bad => rw [q] at h5; exact h5
          refine he g4 H5 Ω3 ρ3 σ2 _ (S4.fr f4) o4 (Pst.bind' (f3.trans f4) h5' fun yd Ω4 g5 H6 yv f5 o5 ry h6 => ?_)
          have f45 := f4.trans f5
          obtain ⟨d1, d2⟩ := same4 f45
          have hu : GSt g5 H6 g5 (L2.upd H6 A (.lst (av ++ [yv]))) := GSt.upd d1 ⟨(fun _ z => by cases z), (fun _ _ z => by cases z)⟩ d2 fun z => nomatch z
          have ra5 : RpL K g5 H6 acc av := RpL.step f45.toGSt _ _ ra3
          have hl := ra5.length
          refine ⟨av, d1, by rw [hl]; exact Nat.lt_of_le_of_lt za (Nat.lt_of_lt_of_le (Nat.lt_of_lt_of_le hi2 hz) lim_le), ?_⟩
          refine ⟨g5, Ω4, acc ++ [yd], av ++ [yv], (f3.trans f45).mutNew hA, o5.upd hu d2 trivial, upd_same, d2, RpL.step hu _ _ (ra5.append (RpL.cons ry RpL.nil)), by rw [List.length_append, List.length_singleton]; omega, h6⟩
    · rintro H2 ⟨g2, Ω2, acc, av, f2, o2, hD, wD, ra, za, h2⟩
      rw [List.drop_length] at h2
      have k := Gh.lock wD
      have h3 : ∀ g' H' b, Fr g1 H1 g' H' → Ob K g' H' Ω2 → Rp K g' H' (.lst acc) b → Q b H' := h2
      refine h3 (g2.put A .lock) H2 (.ref A) (f2.markNew hA .lock) (o2.gh k) ?_
      simp only [Rp]
      exact ⟨A, av, rfl, ⟨hD, G.put_same⟩, RpL.gh k _ _ ra, Nat.le_trans za hz⟩)
end
end Fm
/-! Fm, part 6: own lists, defs, calls, methods, built-ins at the data level. -/
namespace Fm
open PySem PySem.Spec L2
open PyProof.Rows hiding St

/-! ### own lists -/
section
variable {K : PySem.W.Frag} {E : XK} {ta te tl : TE} {da de dl : DE} {tas : TA} {das : DA}
/-- ghosts with a slot's object -/
def G.slot (g : G) (i : Nat) (p : Addr) : G := { own := fun b => if b = p then some (.slot i) else g.own b, adr := fun o => match o with | .slot j => if j = i then p else g.adr (.slot j) | o => g.adr o }
theorem G.slot_adr (g : G) (i : Nat) (p : Addr) : (g.slot i p).adr (.slot i) = p := if_pos rfl
theorem G.slot_ne (g : G) {i j : Nat} (p : Addr) (h : j ≠ i) : (g.slot i p).adr (.slot j) = g.adr (.slot j) := if_neg h
theorem G.slot_own (g : G) (i : Nat) (p : Addr) : (g.slot i p).own p = some (.slot i) := if_pos rfl
theorem G.slot_own_ne (g : G) (i : Nat) {p b : Addr} (h : b ≠ p) : (g.slot i p).own b = g.own b := if_neg h
theorem gst_slot {g : G} {H : Hp} {i : Nat} {p : Addr} {o : HO} (hp : H p = none) : GSt g H (g.slot i p) (upd H p o) where
  own := fun b h => G.slot_own_ne g i fun e => h (by rw [e]; exact hp)
  adr := fun _ _ _ => rfl
  tup := fun b xs e => (Ext.new (g := g) hp).same _ _ e
  frz := fun b x u e => (Ext.new (g := g) hp).same _ _ e
  lock := fun b h _ => (Ext.new (g := g) hp).get h
  dom := fun b h => (Ext.new (g := g) hp).dom h
theorem ob_slot {g : G} {H : Hp} {i : Nat} {p : Addr} {o : HO} {Ω : Om} (hp : H p = none) (h : Ob K g H Ω) : Ob K (g.slot i p) (upd H p o) Ω := by
  have h1 : Ob K (g.put p (.slot i)) (upd H p o) Ω := h.ext (Ext.newL _ hp)
  refine Ob.gh (g := g.put p (.slot i)) (g' := g.slot i p) ⟨fun w hw => ?_, fun b w e _ _ => e, fun b j e => e⟩ h1
  cases w with
  | slot j => exact absurd rfl (hw j)
  | _ => rfl
theorem sl_slot {g : G} {H : Hp} {i : Nat} {p : Addr} {o : HO} {ρ : Env1} {σ : St} (hp : H p = none) (S : Sl K g H ρ σ) (hi : i < ρ.length) {s : Slot} (hs : SlR K (g.slot i p) (upd H p o) i s (some (.ref p))) :
    Sl K (g.slot i p) (upd H p o) (ρ.set i s) (σ.set i (some (.ref p))) := by
  refine ⟨by simp [S.1], fun j t e => ?_⟩
  by_cases hj : i = j
  · subst hj
    rw [List.getElem?_set_self hi] at e
    cases e
    exact ⟨_, by rw [List.getElem?_set_self (by rw [← S.1]; exact hi)], hs⟩
  · rw [List.getElem?_set_ne hj] at e ⊢
    obtain ⟨ov, q1, q2⟩ := S.2 j t e
    refine ⟨ov, q1, ?_⟩
    have hne : j ≠ i := fun z => hj z.symm
    cases t with
    | un => trivial
    | raw a => exact q2
    | val d =>
      obtain ⟨v, e1, r⟩ := q2
      exact ⟨v, e1, Rp.step (gst_slot hp) d v r⟩
    | own ds =>
      obtain ⟨e1, w, vs, hh, r, z⟩ := q2
      have np : g.adr (.slot j) ≠ p := ne_of_none hh hp
      refine ⟨by rw [G.slot_ne g p hne]; exact e1, by rw [G.slot_ne g p hne, G.slot_own_ne g i np]; exact w, vs, by rw [G.slot_ne g p hne, upd_ne np]; exact hh, RpL.step (gst_slot hp) ds vs r, z⟩
    | dct kvs =>
      obtain ⟨e1, w, vs, hh, r, z⟩ := q2
      have np : g.adr (.slot j) ≠ p := ne_of_none hh hp
      refine ⟨by rw [G.slot_ne g p hne]; exact e1, by rw [G.slot_ne g p hne, G.slot_own_ne g i np]; exact w, vs, by rw [G.slot_ne g p hne, upd_ne np]; exact hh, RpL.step (gst_slot hp) _ vs r, z⟩
theorem fresh_of {g0 g : G} {H0 H : Hp} (f : FrE g0 H0 g H) {p : Addr} (h : H p = none) : H0 p = none := by
  cases q : H0 p with
  | none => rfl
  | some o => exact absurd h (f.dom p (ne_some q))
theorem fre_slot {g0 g : G} {H0 H : Hp} {i : Nat} {p : Addr} {o : HO} (f : FrE g0 H0 g H) (hp : H p = none) : FrE g0 H0 (g.slot i p) (upd H p o) :=
  ⟨f.toGSt.trans (gst_slot hp), fun a u e h1 h2 => by
    have := f.same a u e h1 h2
    rw [upd_ne (ne_of_none this hp)]
    exact this⟩
theorem sr_slot {g0 g : G} {H0 H : Hp} {i : Nat} {p : Addr} {o : HO} {Ω : Om} {ρ : Env1} {σ : St} (s : SR K g0 H0 g H Ω ρ σ) (hp : H p = none) (hi : i < ρ.length) {t : Slot} (hs : SlR K (g.slot i p) (upd H p o) i t (some (.ref p))) :
    SR K g0 H0 (g.slot i p) (upd H p o) Ω (ρ.set i t) (σ.set i (some (.ref p))) := by
  refine ⟨sl_slot hp s.sl hi hs, ob_slot hp s.ob, fun j u e h => ?_, fre_slot s.fe hp⟩
  by_cases hj : i = j
  · subst hj
    rw [G.slot_adr]
    exact fresh_of s.fe hp
  · rw [List.getElem?_set_ne hj] at e
    rw [G.slot_ne g p fun z => hj z.symm]
    exact s.fresh j u e h
/-- x = [a, ..], a list that will be changed -/
def dNew (i : Nat) (da : DA) : DS := fun ρ Ω => (da ρ Ω).fl fun ds Ω1 => if i < ρ.length ∧ ds.length ≤ lim then .nx (ρ.set i (.own ds)) Ω1 else .bad
theorem tds_new {i : Nat} (h1 : TDA K E tas das) : TDS K E (tAsg (tLst tas) (gName i)) (dNew i das) := fun g0 H0 g H Ω ρ σ D s h =>
  h1 g H Ω ρ σ _ s.sl s.ob (PstS.bind s.fe h fun xs Ω1 g1 H1 vs f1 o1 r1 h' => by
    by_cases c : i < ρ.length ∧ xs.length ≤ lim
    · rw [if_pos c] at h'
      have s1 := s.fr f1 o1
      refine ⟨by rw [r1.length]; exact Nat.le_trans c.2 lim_le, fun p hp => ?_⟩
      refine h' (g1.slot i p) (upd H1 p (.lst vs)) _ (gst_slot hp) (sr_slot s1 hp c.1 ⟨by rw [G.slot_adr], by rw [G.slot_adr, G.slot_own], vs, by rw [G.slot_adr, upd_same], RpL.step (gst_slot hp) _ _ r1, c.2⟩)
    · rw [if_neg c] at h'
      exact h'.elim)
/-- the slot's own object is changed -/
theorem sr_upd {g0 g : G} {H0 H : Hp} {i : Nat} {o o' : HO} {Ω : Om} {ρ : Env1} {σ : St} {t0 t : Slot} (s : SR K g0 H0 g H Ω ρ σ) (e : ρ[i]? = some t0) (ho : isOwn t0 = true) (hh : H (g.adr (.slot i)) = some o) (hw : g.own (g.adr (.slot i)) = some (.slot i)) (hr : σ[i]? = some (some (.ref (g.adr (.slot i)))))
    (hm : (∀ xs, o ≠ .tup xs) ∧ ∀ x u, o ≠ .frz x u) (hs : SlR K g (upd H (g.adr (.slot i)) o') i t (some (.ref (g.adr (.slot i))))) :
    GSt g H g (upd H (g.adr (.slot i)) o') ∧ SR K g0 H0 g (upd H (g.adr (.slot i)) o') Ω (ρ.set i t) σ := by
  have f : GSt g H g (upd H (g.adr (.slot i)) o') := GSt.upd hh hm hw fun z => nomatch z
  have hi : i < ρ.length := (List.getElem?_eq_some_iff.mp e).1
  have hz := s.fresh i t0 e ho
  refine ⟨f, ⟨⟨by simp [s.sl.1], fun j u eu => ?_⟩, s.ob.upd f hw trivial, fun j u eu hu => ?_, ⟨s.fe.toGSt.trans f, fun a u ea h1 h2 => ?_⟩⟩⟩
  · by_cases hj : i = j
    · subst hj
      rw [List.getElem?_set_self hi] at eu
      cases eu
      exact ⟨_, hr, hs⟩
    · rw [List.getElem?_set_ne hj] at eu
      obtain ⟨ov, q1, q2⟩ := s.sl.2 j u eu
      refine ⟨ov, q1, ?_⟩
      cases u with
      | un => trivial
      | val d =>
        obtain ⟨v, e1, r⟩ := q2
        exact ⟨v, e1, Rp.step f d v r⟩
      | raw a => exact q2
      | own ds =>
        obtain ⟨e1, w, vs, hv, r, z⟩ := q2
        have np : g.adr (.slot j) ≠ g.adr (.slot i) := fun q => by
          rw [q, hw] at w
          cases w
          exact hj rfl
        exact ⟨e1, w, vs, by rw [upd_ne np]; exact hv, RpL.step f ds vs r, z⟩
      | dct kvs =>
        obtain ⟨e1, w, vs, hv, r, z⟩ := q2
        have np : g.adr (.slot j) ≠ g.adr (.slot i) := fun q => by
          rw [q, hw] at w
          cases w
          exact hj rfl
        exact ⟨e1, w, vs, by rw [upd_ne np]; exact hv, RpL.step f _ vs r, z⟩
  · by_cases hj : i = j
    · subst hj
      exact hz
    · rw [List.getElem?_set_ne hj] at eu
      exact s.fresh j u eu hu
  · have := s.fe.same a u ea h1 h2
    rw [upd_ne]
    · exact this
    · rintro rfl
      rw [hz] at ea
      cases ea
theorem Sl.own {g : G} {H : Hp} {ρ : Env1} {σ : St} (S : Sl K g H ρ σ) {i : Nat} {ds : List D} (e : ρ[i]? = some (.own ds)) :
    σ[i]? = some (some (.ref (g.adr (.slot i)))) ∧ g.own (g.adr (.slot i)) = some (.slot i) ∧ ∃ vs, H (g.adr (.slot i)) = some (.lst vs) ∧ RpL K g H ds vs ∧ ds.length ≤ lim := by
  obtain ⟨o, q, rfl, w, vs, hh, r, z⟩ := S.2 i _ e
  exact ⟨q, w, vs, hh, r, z⟩
/-- x.append(e) -/
def dApp (i : Nat) (de : DE) : DS := fun ρ Ω => match ρ[i]? with
  | some (.own ds) => (de ρ Ω).fl fun d Ω1 => if ds.length < lim then .nx (ρ.set i (.own (ds ++ [d]))) Ω1 else .bad
  | _ => .bad
theorem own_of {α : Type} {s : Option Slot} {f : List D → α} {b : α} {P : α → Prop} (hb : ¬ P b) (h : P (match s with | some (.own ds) => f ds | _ => b)) : ∃ ds, s = some (.own ds) ∧ P (f ds) := by
  cases s with
  | none => exact absurd h hb
  | some t =>
    cases t with
    | own ds => exact ⟨ds, rfl, h⟩
    | _ => exact absurd h hb
theorem nlst {xs : List V} : (∀ ys, HO.lst xs ≠ .tup ys) ∧ ∀ x u, HO.lst xs ≠ .frz x u := ⟨(fun _ z => by cases z), (fun _ _ z => by cases z)⟩
theorem tds_app {i : Nat} (h1 : TD K E te de) : TDS K E (tDrop (tBM K "list" rAppend (tVar i) (tCons te tNil))) (dApp i de) := fun g0 H0 g H Ω ρ σ D s h => by
  unfold dApp at h
  obtain ⟨ds, q, h⟩ := own_of (b := Fl.bad) (P := PstS K E g0 H0 g H D) (fun z => z) h
  obtain ⟨hv, hw, vs, hh, r, z⟩ := s.sl.own q
  refine ⟨_, hv, Or.inl ⟨rfl, _, Or.inl (Or.inl hh)⟩, ?_⟩
  refine h1 g H Ω ρ σ _ s.sl s.ob (PstS.bind s.fe h fun x Ω1 g1 H1 v f1 o1 r1 h'' => ?_)
  by_cases c : ds.length < lim
  · rw [if_pos c] at h''
    have s1 := s.fr f1 o1
    obtain ⟨hv1, hw1, vs1, hh1, r1', z1⟩ := s1.sl.own q
    have ea : g1.adr (.slot i) = g.adr (.slot i) := f1.slot i
    rw [← ea]
    refine ⟨_, vs1, v, rfl, rfl, hh1, by rw [r1'.length]; exact Nat.lt_trans c lim_lt, ?_⟩
    have f2 : GSt g1 H1 g1 (upd H1 (g1.adr (.slot i)) (.lst (vs1 ++ [v]))) := GSt.upd hh1 nlst hw1 fun z => nomatch z
    obtain ⟨f3, s3⟩ := sr_upd s1 q rfl hh1 hw1 hv1 nlst (o' := .lst (vs1 ++ [v])) (t := .own (ds ++ [x])) ⟨rfl, hw1, vs1 ++ [v], upd_same, RpL.step f2 _ _ (r1'.append (RpL.cons r1 RpL.nil)), by rw [List.length_append, List.length_singleton]; omega⟩
    exact h'' g1 _ σ f3 s3
  · rw [if_neg c] at h''
    exact h''.elim
/-- x.extend(e), e a list -/
def dExt (i : Nat) (de : DE) : DS := fun ρ Ω => match ρ[i]? with
  | some (.own ds) => (de ρ Ω).fl fun d Ω1 => match d with
    | .lst es => if ds.length + es.length ≤ lim then .nx (ρ.set i (.own (ds ++ es))) Ω1 else .bad
    | _ => .bad
  | _ => .bad
theorem tds_ext {i : Nat} (h1 : TD K E te de) : TDS K E (tDrop (tBM K "list" rExtend (tVar i) (tCons te tNil))) (dExt i de) := fun g0 H0 g H Ω ρ σ D s h => by
  unfold dExt at h
  obtain ⟨ds, q, h⟩ := own_of (b := Fl.bad) (P := PstS K E g0 H0 g H D) (fun z => z) h
  obtain ⟨hv, hw, vs, hh, r, z⟩ := s.sl.own q
  refine ⟨_, hv, Or.inl ⟨rfl, _, Or.inl (Or.inl hh)⟩, ?_⟩
  refine h1 g H Ω ρ σ _ s.sl s.ob (PstS.bind s.fe h fun x Ω1 g1 H1 v f1 o1 r1 h'' => ?_)
  cases x with
  | lst es =>
    have h3 : PstS K E g0 H0 g1 H1 D (if ds.length + es.length ≤ lim then .nx (ρ.set i (.own (ds ++ es))) Ω1 else .bad) := h''
    obtain ⟨b, ws, rfl, lk, re, ze⟩ := r1.lst_inv
    by_cases c : ds.length + es.length ≤ lim
    · rw [if_pos c] at h3
      have s1 := s.fr f1 o1
      obtain ⟨hv1, hw1, vs1, hh1, r1', z1⟩ := s1.sl.own q
      have ea : g1.adr (.slot i) = g.adr (.slot i) := f1.slot i
      rw [← ea]
      refine ⟨_, b, vs1, ws, rfl, rfl, hh1, lk.1, by rw [r1'.length, re.length]; exact Nat.le_trans c lim_le, ?_⟩
      have f2 : GSt g1 H1 g1 (upd H1 (g1.adr (.slot i)) (.lst (vs1 ++ ws))) := GSt.upd hh1 nlst hw1 fun z => nomatch z
      obtain ⟨f3, s3⟩ := sr_upd s1 q rfl hh1 hw1 hv1 nlst (o' := .lst (vs1 ++ ws)) (t := .own (ds ++ es)) ⟨rfl, hw1, vs1 ++ ws, upd_same, RpL.step f2 _ _ (r1'.append re), by rw [List.length_append]; exact c⟩
      exact h3 g1 _ σ f3 s3
    · rw [if_neg c] at h3
      exact h3.elim
  | _ => exact h''.elim
/-- x[j] = e -/
def dSetI (i : Nat) (de dj : DE) : DS := fun ρ Ω => match ρ[i]? with
  | some (.own ds) => (de ρ Ω).fl fun d Ω1 => (dj ρ Ω1).fl fun j Ω2 => match j with
    | .int k => match ixN ds.length k with
      | some m => .nx (ρ.set i (.own (ds.set m d))) Ω2
      | none => .bad
    | _ => .bad
  | _ => .bad
theorem tds_setI {i : Nat} {tj : TE} {dj : DE} (h1 : TD K E te de) (h2 : TD K E tj dj) : TDS K E (tAsg te (gSub (tVar i) tj rSetL)) (dSetI i de dj) := fun g0 H0 g H Ω ρ σ D s h => by
  unfold dSetI at h
  obtain ⟨ds, q, h⟩ := own_of (b := Fl.bad) (P := PstS K E g0 H0 g H D) (fun z => z) h
  refine h1 g H Ω ρ σ _ s.sl s.ob (PstS.bind s.fe h fun x Ω1 g1 H1 v f1 o1 r1 h'' => ?_)
  have s1 := s.fr f1 o1
  obtain ⟨hv1, hw1, vs1, hh1, r1', z1⟩ := s1.sl.own q
  refine ⟨_, hv1, ?_⟩
  refine h2 g1 H1 Ω1 ρ σ _ s1.sl s1.ob (PstS.bind s1.fe h'' fun y Ω2 g2 H2 w f2 o2 r2 h3 => ?_)
  cases y with
  | int k =>
    have h4 : PstS K E g0 H0 g2 H2 D (match ixN ds.length k with | some m => .nx (ρ.set i (.own (ds.set m x))) Ω2 | none => .bad) := h3
    cases e : ixN ds.length k with
    | none => rw [e] at h4; exact h4.elim
    | some m =>
      rw [e] at h4
      have s2 := s1.fr f2 o2
      obtain ⟨hv2, hw2, vs2, hh2, r2', z2⟩ := s2.sl.own q
      have ea : g2.adr (.slot i) = g1.adr (.slot i) := f2.slot i
      rw [← ea]
      refine ⟨_, vs2, k, m, rfl, r2.int_inv, hh2, by rw [r2'.length]; exact e, ?_⟩
      have rx : Rp K g2 H2 x v := Rp.step f2.toGSt _ _ r1
      have f3 : GSt g2 H2 g2 (upd H2 (g2.adr (.slot i)) (.lst (vs2.set m v))) := GSt.upd hh2 nlst hw2 fun z => nomatch z
      obtain ⟨f4, s4⟩ := sr_upd s2 q rfl hh2 hw2 hv2 nlst (o' := .lst (vs2.set m v)) (t := .own (ds.set m x)) ⟨rfl, hw2, vs2.set m v, upd_same, RpL.step f3 _ _ (r2'.set m rx), by rw [List.length_set]; exact z2⟩
      exact h4 g2 _ σ f4 s4
  | _ => exact h3.elim
/-- an own list read: a value that stands as long as nothing is stored -/
def RpQ (K : PySem.W.Frag) (g : G) (H : Hp) (ds : List D) (v : V) : Prop := ∃ a vs, v = .ref a ∧ (H a = some (.lst vs) ∧ (g.own a = some .lock ∨ ∃ i, g.own a = some (.slot i))) ∧ RpL K g H ds vs ∧ ds.length ≤ lim
theorem RpQ.fr {g g1 : G} {H H1 : Hp} (f : Fr g H g1 H1) {ds : List D} {v : V} (h : RpQ K g H ds v) : RpQ K g1 H1 ds v := by
  obtain ⟨a, vs, e, ⟨q1, q2⟩, r, z⟩ := h
  refine ⟨a, vs, e, ⟨f.same a _ q1 (fun i c => ?_) (fun i x c => ?_), ?_⟩, RpL.step f.toGSt _ _ r, z⟩
  · rcases q2 with q2 | ⟨j, q2⟩ <;> (rw [q2] at c; cases c)
  · rcases q2 with q2 | ⟨j, q2⟩ <;> (rw [q2] at c; cases c)
  · rw [f.own a (ne_some q1)]
    exact q2
def TDQ (K : PySem.W.Frag) (E : XK) (te : TE) (dq : DI) : Prop := ∀ g H Ω ρ σ Q, Sl K g H ρ σ → Ob K g H Ω → Pst K E g H (RpQ K) Q (dq ρ Ω) → te σ H Q
def dOwn (i : Nat) : DI := fun ρ Ω => match ρ[i]? with
  | some (.own ds) => .ok ds Ω
  | _ => .bad
theorem tdq_own (i : Nat) : TDQ K E (tVar i) (dOwn i) := fun g H Ω ρ σ Q S O h => by
  unfold dOwn at h
  obtain ⟨ds, q, h⟩ := own_of (b := Res.bad) (P := Pst K E g H (RpQ K) Q) (fun z => z) h
  obtain ⟨hv, hw, vs, hh, r, z⟩ := S.own q
  exact ⟨_, hv, h g H _ Fr.refl O ⟨_, vs, rfl, ⟨hh, .inr ⟨i, hw⟩⟩, r, z⟩⟩
theorem tdq_lst (h1 : TD K E te de) : TDQ K E te (asLst de) := fun g H Ω ρ σ Q S O h =>
  h1 g H Ω ρ σ _ S O (Pst.bind h fun x Ω1 g1 H1 v f1 o1 r1 h' => by
    cases x with
    | lst ds =>
      obtain ⟨a, vs, rfl, q, r, z⟩ := r1.lst_inv
      exact h' g1 H1 _ Fr.refl o1 ⟨a, vs, rfl, ⟨q.1, .inl q.2⟩, r, z⟩
    | _ => exact h'.elim)
/-- return x, x an own list -/
def dRetOwn (i : Nat) : DS := fun ρ Ω => match ρ[i]? with
  | some (.own ds) => .rt (.lst ds) Ω
  | _ => .bad
theorem tds_retOwn (i : Nat) : TDS K E (tRet (tVar i)) (dRetOwn i) := fun g0 H0 g H Ω ρ σ D s h => by
  unfold dRetOwn at h
  obtain ⟨ds, q, h⟩ := own_of (b := Fl.bad) (P := PstS K E g0 H0 g H D) (fun z => z) h
  obtain ⟨hv, hw, vs, hh, r, z⟩ := s.sl.own q
  refine ⟨_, hv, ?_⟩
  have k : Gh g (g.put (g.adr (.slot i)) .lock) := ⟨fun _ _ => rfl, fun b w e _ hs => by
    by_cases hb : b = g.adr (.slot i)
    · subst hb
      rw [hw] at e
      cases e
      exact absurd rfl (hs i)
    · rw [G.put_ne hb]
      exact e, put_nob fun _ z => by cases z⟩
  have hz := s.fresh i _ q rfl
  have ne : ∀ b, H0 b ≠ none → b ≠ g.adr (.slot i) := fun b hb e => hb (by rw [e]; exact hz)
  refine h (g.put (g.adr (.slot i)) .lock) H _ ⟨⟨fun b hb => by rw [G.put_ne (ne b hb)]; exact s.fe.own b hb, s.fe.adr, s.fe.tup, s.fe.frz, s.fe.lock, s.fe.dom⟩, s.fe.same⟩ (s.ob.gh k) ?_
  simp only [Rp]
  exact ⟨_, vs, rfl, ⟨hh, G.put_same⟩, RpL.gh k _ _ r, z⟩
end

/-! ### defs -/
def runF (db : DS) (N n : Nat) (ds : List D) (Ω : Om) : Res D := if ds.length = n then (match db (ds.map .val ++ List.replicate (N - n) .un) Ω with
  | .nx _ Ω' => .ok .non Ω'
  | .rt d Ω' => .ok d Ω'
  | .exc x Ω' => .exc x Ω'
  | .bad => .bad) else .bad
/-- a def's promise: it comes to what F says -/
def spD (K : PySem.W.Frag) (n : Nat) (F : List D → Om → Res D) : Sp := fun vs H Q E => ∃ g Ω ds, ds.length = n ∧ RpL K g H ds vs ∧ Ob K g H Ω ∧ Pst K E g H (Rp K) Q (F ds Ω)
theorem spD.len {K : PySem.W.Frag} {n : Nat} {F : List D → Om → Res D} {ps : List Str} (hn : ps.length = n) : ∀ vs H Q E, spD K n F vs H Q E → vs.length = ps.length := fun vs H Q E ⟨g, Ω, ds, h, r, _⟩ => by
  rw [r.length, h, hn]
def G.back (g0 g : G) : G := { own := g.own, adr := fun o => match o with | .slot j => g0.adr (.slot j) | o => g.adr o }
section
variable {K : PySem.W.Frag} {E : XK}
theorem G.gh_back (g0 g : G) : Gh g (g0.back g) := ⟨fun w hw => by
  cases w with
  | slot j => exact absurd rfl (hw j)
  | _ => rfl, fun b w e _ _ => e, fun b j e => e⟩
theorem FrE.back {g0 g : G} {H0 H : Hp} (f : FrE g0 H0 g H) : Fr g0 H0 (g0.back g) H :=
  ⟨⟨f.own, f.adr, f.tup, f.frz, f.lock, f.dom⟩, fun _ => rfl, f.same⟩
theorem sl_start {g : G} {H : Hp} {ds : List D} {vs : List V} {N : List Str} (r : RpL K g H ds vs) : Sl K g H (ds.map .val ++ List.replicate (N.length - ds.length) .un) (L2.start N vs) := by
  have hl := r.length
  refine ⟨by simp [L2.start, hl], fun i s e => ?_⟩
  unfold L2.start
  by_cases hi : i < ds.length
  · rw [List.getElem?_append_left (by simpa using hi), List.getElem?_map] at e
    rw [List.getElem?_append_left (by simp [hl]; exact hi), List.getElem?_map]
    have hd : ds[i]? = some (ds[i]'hi) := List.getElem?_eq_getElem hi
    rw [hd] at e
    cases e
    obtain ⟨v, q1, q2⟩ := r.get hd
    exact ⟨some v, by rw [q1] <;> rfl, v, rfl, q2⟩
  · have hi' : ds.length ≤ i := Nat.le_of_not_lt hi
    rw [List.getElem?_append_right (by simpa using hi'), List.getElem?_replicate] at e
    rw [List.getElem?_append_right (by simp [hl]; exact hi'), List.getElem?_replicate]
    simp only [List.length_map, hl] at e ⊢
    split at e
    · rename_i c
      cases e
      exact ⟨none, by rw [if_pos c], trivial⟩
    · cases e
theorem spD_body {ts : TS} {db : DS} {n : Nat} {N : List Str} {vs : List V} {H : Hp} {Q : VK} (hb : TDS K E ts db) (h : spD K n (runF db N.length n) vs H Q E) : ts { nx := fun _ H' => Q .non H', rt := Q } (L2.start N vs) H := by
  obtain ⟨g, Ω, ds, hn, r, o, p⟩ := h
  unfold runF at p
  rw [if_pos hn] at p
  subst hn
  refine hb g H g H Ω _ _ _ ⟨sl_start r, o, fun i s e hs => ?_, FrE.refl⟩ ?_
  · exfalso
    have hm := List.mem_of_getElem? e
    rcases List.mem_append.mp hm with hm | hm
    · obtain ⟨d, _, rfl⟩ := List.mem_map.mp hm
      cases hs
    · rw [(List.mem_replicate.mp hm).2] at hs
      cases hs
  · cases q : db (ds.map .val ++ List.replicate (N.length - ds.length) .un) Ω with
    | nx ρ' Ω' =>
      rw [q] at p
      exact fun g' H' σ' f' s' => p (g.back g') H' .non s'.fe.back (s'.ob.gh (G.gh_back _ _)) Rp.non
    | rt d Ω' =>
      rw [q] at p
      exact fun g' H' v f' o' r' => p (g.back g') H' v f'.back (o'.gh (G.gh_back _ _)) (Rp.gh (G.gh_back _ _) _ _ r')
    | exc x Ω' =>
      rw [q] at p
      exact fun g' H' f' o' => p (g.back g') H' f'.back (o'.gh (G.gh_back _ _))
    | bad => rw [q] at p; exact p
/-! calls -/
def dCall (F : List D → Om → Res D) (da : DA) : DE := fun ρ Ω => (da ρ Ω).bind F
theorem td_call {n : Nat} {F : List D → Om → Res D} {ta : TA} {da : DA} (hn : ∀ ρ Ω ds Ω', da ρ Ω = .ok ds Ω' → ds.length = n) (h1 : TDA K E ta da) : TD K E (tCall (spD K n F) [] E ta) (dCall F da) := fun g H Ω ρ σ Q S O h => by
  refine h1 g H Ω ρ σ _ S O ?_
  cases e : da ρ Ω with
  | ok ds Ω1 =>
    unfold dCall at h
    rw [e] at h
    intro g1 H1 vs f1 o1 r1
    rw [List.append_nil]
    exact ⟨g1, Ω1, ds, hn ρ Ω ds Ω1 e, r1, o1, Pst.fr f1 h⟩
  | exc x Ω1 =>
    unfold dCall at h
    rw [e] at h
    exact h
  | bad =>
    unfold dCall at h
    rw [e] at h
    exact h
theorem dNil_len : ∀ ρ Ω ds Ω', dNil ρ Ω = .ok ds Ω' → ds.length = 0 := fun ρ Ω ds Ω' e => by
  unfold dNil at e
  cases e
  rfl
theorem dCons_len {da : DE} {dr : DA} {n : Nat} (h : ∀ ρ Ω ds Ω', dr ρ Ω = .ok ds Ω' → ds.length = n) : ∀ ρ Ω ds Ω', dCons da dr ρ Ω = .ok ds Ω' → ds.length = n + 1 := fun ρ Ω ds Ω' e => by
  unfold dCons at e
  cases q : da ρ Ω with
  | ok x Ω1 =>
    rw [q] at e
    have e' : (dr ρ Ω1).bind (fun xs Ω2 => Res.ok (x :: xs) Ω2) = .ok ds Ω' := e
    cases q2 : dr ρ Ω1 with
    | ok xs Ω2 =>
      rw [q2] at e'
      cases e'
      rw [List.length_cons, h _ _ _ _ q2]
    | exc _ _ => rw [q2] at e'; cases e'
    | bad => rw [q2] at e'; cases e'
  | exc _ _ => rw [q] at e; cases e
  | bad => rw [q] at e; cases e
end
end Fm
/-! Fm, part 7: syntax to denotation: one rule a construct. -/
namespace Fm
open PySem PySem.Spec L2
open PyProof.Rows hiding St

section
variable {X : Cx} {K : PySem.W.Frag} {E : XK} {a b c e : Expr} {es : List Expr} {ta tb tc te : TE} {da db dc de : DE} {tt tu : TT} {dt du : DT} {tas : TA} {das : DA} {pos p : Pos} {x : Str}

/-! ### names, constants -/
theorem pd_var (i : Nat) (hN : X.N[i]? = some x := by rfl) (hv : Vis X.env.scope x := by first | exact Or.inl rfl | exact Or.inr (Or.inl rfl) | exact Or.inr (Or.inr rfl)) (hd : (x == ("__debug__" : Str)) = false := by decide)
    (hcd : (x == ("__classdict__" : Str)) = false := by decide) (hk : X.K = K := by rfl) : PD X K E (.Name x pos) (tVar i) (dVar i) := ⟨hk, pe_var hN hv hd hcd, td_var i⟩
theorem pd_int {i : Int} {j} (hk : X.K = K := by rfl) : PD X K E (.Constant (.int i) j pos) (tC (.int i)) (dC (.int i)) := ⟨hk, pe_int, td_c fun _ _ => Rp.int⟩
theorem pd_bl {b : Bool} {j} (hk : X.K = K := by rfl) : PD X K E (.Constant (.bool b) j pos) (tC (.bl b)) (dC (.bl b)) := ⟨hk, pe_bl, td_c fun _ _ => Rp.bl⟩
theorem pd_non {j} (hk : X.K = K := by rfl) : PD X K E (.Constant .none j pos) (tC .non) (dC .non) := ⟨hk, pe_non, td_c fun _ _ => Rp.non⟩
theorem pd_str (l : List Nat) {y : Str} {j} (h : y = ⟨l.toArray⟩ := by decide +kernel) (hl : (decide (l.length ≤ lim) && asc l) = true := by decide +kernel) (hk : X.K = K := by rfl) : PD X K E (.Constant (.str y) j pos) (tC (.str y)) (dC (.str l)) := by
  subst h
  obtain ⟨h1, h2⟩ := Bool.and_eq_true_iff.mp hl
  exact ⟨hk, pe_str, td_c fun _ _ => Rp.str (of_decide_eq_true h1) h2⟩
/-- a text of the module -/
theorem pd_globS (l : List Nat) {y : Str} {t : Tok} (hg : Gl X x) (hm : X.mg x = some (.str y t)) (h : y = ⟨l.toArray⟩ := by decide +kernel) (hl : (decide (l.length ≤ lim) && asc l) = true := by decide +kernel) (hd : (x == ("__debug__" : Str)) = false := by decide) (hk : X.K = K := by rfl) :
    PD X K E (.Name x pos) (tC (.str y)) (dC (.str l)) := by
  subst h
  obtain ⟨h1, h2⟩ := Bool.and_eq_true_iff.mp hl
  exact ⟨hk, pe_glob hg hm ⟨t, rfl⟩ hd, td_c fun _ _ => Rp.str (of_decide_eq_true h1) h2⟩

/-! ### operators -/
theorem pd_plus (ha : PD X K E a ta da) (hb : PD X K E b tb db) : PD X K E (.BinOp a .Add b pos) (tOp (rPlus K) ta tb) (dOp fPlus da db) := by
  obtain ⟨k, pa, qa⟩ := ha
  subst k
  exact ⟨rfl, pe_op or_plus pa hb.pe, td_op rd_plus qa hb.td⟩
theorem pd_minus (ha : PD X K E a ta da) (hb : PD X K E b tb db) : PD X K E (.BinOp a .Sub b pos) (tOp (rI0 fun i j => .int (i - j)) ta tb) (dOp fMinus da db) := ⟨ha.k, pe_op op_sub ha.pe hb.pe, td_op rd_minus ha.td hb.td⟩
theorem pd_mul (ha : PD X K E a ta da) (hb : PD X K E b tb db) : PD X K E (.BinOp a .Mult b pos) (tOp (rI CMul fun i j => .int (i * j)) ta tb) (dOp fMul da db) := ⟨ha.k, pe_op op_mul ha.pe hb.pe, td_op rd_mul ha.td hb.td⟩
theorem pd_mod (ha : PD X K E a ta da) (hb : PD X K E b tb db) : PD X K E (.BinOp a .Mod b pos) (tOp (rI (fun _ j => 0 < j) fun i j => .int (i % j)) ta tb) (dOp fMod da db) := ⟨ha.k, pe_op op_mod ha.pe hb.pe, td_op rd_mod ha.td hb.td⟩
def fNeg : D → Option D
  | .int i => some (.int (-i))
  | _ => none
theorem rd_neg : RD1 K (rU fun i => .int (-i)) fNeg := fun g H x v Q rx h => by
  cases x <;> try exact h.elim
  rw [rx.int_inv]
  exact ⟨_, rfl, h g H _ Ext.refl Rp.int⟩
theorem pd_neg (ha : PD X K E a ta da) : PD X K E (.UnaryOp .USub a pos) (tUn (rU fun i => .int (-i)) ta) (dUn fNeg da) := ⟨ha.k, pe_un un_neg ha.pe, td_un rd_neg ha.td⟩

/-! ### comparisons: a rule for each operator (cr_..), as a value, as a test, in a chain -/
/-- an operator's three parts -/
structure CmpD (X : Cx) (K : PySem.W.Frag) (op : CmpOp) (r : R2) (f : D → D → Option D) : Prop where
  k : X.K = K
  ho : OpR X (compareOp op) r
  rd : RD2 K r f
theorem c_lt (hk : X.K = K := by rfl) : CmpD X K .Lt rLtU fLt := ⟨hk, or_lt, rd_lt⟩
theorem c_le (hk : X.K = K := by rfl) : CmpD X K .LtE rLeU fLe := ⟨hk, or_le, rd_le⟩
theorem c_gt (hk : X.K = K := by rfl) : CmpD X K .Gt rGtU fGt := ⟨hk, or_gt, rd_gt⟩
theorem c_ge (hk : X.K = K := by rfl) : CmpD X K .GtE rGeU fGe := ⟨hk, or_ge, rd_ge⟩
theorem c_is (hk : X.K = K := by rfl) : CmpD X K .Is rIs fIs := ⟨hk, or_is, rd_is⟩
theorem c_isnot (hk : X.K = K := by rfl) : CmpD X K .IsNot rIsNot fIsNot := ⟨hk, or_isnot, rd_isnot⟩
theorem c_eq (hu : X.A.units + 65 < cLine) (hk : X.K = K := by rfl) : CmpD X K .Eq (rEqD K) fEq := by subst hk; exact ⟨rfl, op_eqD (by omega), rd_eq⟩
theorem c_ne (hu : X.A.units + 65 < cLine) (hk : X.K = K := by rfl) : CmpD X K .NotEq (rNeD K) fNe := by subst hk; exact ⟨rfl, op_neD (by omega), rd_ne⟩
theorem c_in (hu : X.A.units + 65 < cLine) (hk : X.K = K := by rfl) : CmpD X K .In (rInU K) fIn := by subst hk; exact ⟨rfl, or_in hu, rd_in⟩
theorem c_notin (hu : X.A.units + 65 < cLine) (hk : X.K = K := by rfl) : CmpD X K .NotIn (rNotInU K) fNotIn := by subst hk; exact ⟨rfl, or_notin hu, rd_notin⟩
theorem pd_cmp {op : CmpOp} {r : R2} {f : D → D → Option D} (o : CmpD X K op r f) (ha : PD X K E a ta da) (hb : PD X K E b tb db) (hm : behindInMarks op b = false := by first | exact nomark _ | rfl) :
    PD X K E (.Compare a [op] [b] pos) (tOp r ta tb) (dOp f da db) := ⟨o.k, pe_cmpR o.ho ha.pe hb.pe hm, td_op o.rd ha.td hb.td⟩
theorem pdt_cmp {op : CmpOp} {r : R2} {f : D → D → Option D} (o : CmpD X K op r f) (ha : PD X K E a ta da) (hb : PD X K E b tb db) (hm : behindInMarks op b = false := by first | exact nomark _ | rfl) :
    PDT X K E (.Compare a [op] [b] pos) (tTest (tOp r ta tb)) (dTest (dOp f da db)) := ⟨o.k, pt_cmpR o.ho ha.pe hb.pe hm, tdt_test (td_op o.rd ha.td hb.td)⟩
def dChain (f f' : D → D → Option D) (da db dc : DE) : DE := fun ρ Ω => (da ρ Ω).bind fun x Ω1 => (db ρ Ω1).bind fun y Ω2 => match f x y with
  | some (.bl true) => (dc ρ Ω2).bind fun z Ω3 => lift (f' y z) Ω3
  | some (.bl false) => .ok (.bl false) Ω2
  | _ => .bad
theorem td_chain {r r' : R2} {f f' : D → D → Option D} (h1 : RD2 K r f) (h2 : RD2 K r' f') (ha : TD K E ta da) (hb : TD K E tb db) (hc : TD K E tc dc) : TD K E (tChain r r' ta tb tc) (dChain f f' da db dc) := fun g H Ω ρ σ Q S O h =>
  ha g H Ω ρ σ _ S O (Pst.bind h fun x Ω1 g1 H1 v f1 O1 r1 q1 =>
    hb g1 H1 Ω1 ρ σ _ (S.fr f1) O1 (Pst.bind q1 fun y Ω2 g2 H2 w f2 O2 r2 q2 => by
      refine h1 g2 H2 x y v w _ (Rp.step f2.toGSt _ _ r1) r2 ?_
      cases e : f x y with
      | none => rw [e] at q2; exact q2
      | some d =>
        rw [e] at q2
        intro g3 H3 z ex r3
        cases d with
        | bl k =>
          refine ⟨k, r3.bl_inv, ?_⟩
          cases k with
          | false => exact q2 g3 H3 (.bl false) ex.fr (O2.ext ex) Rp.bl
          | true =>
            have q2' : Pst K E g2 H2 (Rp K) Q ((dc ρ Ω2).bind fun z Ω3 => lift (f' y z) Ω3) := q2
            refine hc g3 H3 Ω2 ρ σ _ (((S.fr f1).fr f2).fr ex.fr) (O2.ext ex) (Pst.bind (Pst.fr ex.fr q2') fun z Ω3 g4 H4 u f4 O4 r4 q4 => ?_)
            exact h2 g4 H4 y z w u Q (Rp.step (ex.fr.trans f4).toGSt _ _ r2) r4 (Pst.pure O4 q4)
        | _ => exact q2.elim))
theorem pd_chain {op op' : CmpOp} {r r' : R2} {f f' : D → D → Option D} (o : CmpD X K op r f) (o' : CmpD X K op' r' f') (ha : PD X K E a ta da) (hb : PD X K E b tb db) (hc : PD X K E c tc dc) (hm : lastMarks [op, op'] [b, c] = false := by with_unfolding_all rfl) :
    PD X K E (.Compare a [op, op'] [b, c] pos) (tChain r r' ta tb tc) (dChain f f' da db dc) := ⟨o.k, pe_chain o.ho o'.ho ha.pe hb.pe hc.pe hm, td_chain o.rd o'.rd ha.td hb.td hc.td⟩
theorem pdt_chain {op op' : CmpOp} {r r' : R2} {f f' : D → D → Option D} (o : CmpD X K op r f) (o' : CmpD X K op' r' f') (ha : PD X K E a ta da) (hb : PD X K E b tb db) (hc : PD X K E c tc dc) (hm : lastMarks [op, op'] [b, c] = false := by with_unfolding_all rfl) :
    PDT X K E (.Compare a [op, op'] [b, c] pos) (tTest (tChain r r' ta tb tc)) (dTest (dChain f f' da db dc)) := ⟨o.k, pt_chain o.ho o'.ho ha.pe hb.pe hc.pe hm, tdt_test (td_chain o.rd o'.rd ha.td hb.td hc.td)⟩
/-- a op1 b op2 c op3 d -/
def tChain3 (r r' r'' : R2) (ta tb tc td : TE) : TE := fun σ H Q => ta σ H fun x H1 => tb σ H1 fun y H2 => r x y H2 fun z H3 => ∃ k, z = .bl k ∧
  (if k = true then tc σ H3 fun u H4 => r' y u H4 fun z' H5 => ∃ k', z' = .bl k' ∧ (if k' = true then td σ H5 fun w' H6 => r'' u w' H6 Q else Q (.bl false) H5) else Q (.bl false) H3)
theorem pt_chain3 {d : Expr} {td : TE} {op op' op'' : CmpOp} {r r' r'' : R2} (ho : OpR X (compareOp op) r) (ho' : OpR X (compareOp op') r') (ho'' : OpR X (compareOp op'') r'') (ha : PE X a ta) (hb : PE X b tb) (hc : PE X c tc) (hd : PE X d td)
    (hm : lastMarks [op, op', op''] [b, c, d] = false := by with_unfolding_all rfl) : PT X (.Compare a [op, op', op''] [b, c, d] pos) (tTest (tChain3 r r' r'' ta tb tc td)) := by
  refine ⟨fun pins s σ H Q I h => ?_⟩
  refine isTrue_chain (thn (ha.run pins s σ H _ I h) fun v s1 ⟨x, H1, I1, r1, q1⟩ => test_link (thn (hb.run pins s1 σ H1 _ I1 q1) fun u s2 ⟨y, H2, I2, r2, q2⟩ =>
    thn (ho pins s2 σ H2 x y v u _ I2 r1 r2 q2) fun d s3 ⟨z, H3, I3, r3, k, e, q3⟩ => ?_)) hm
  subst e
  cases r3
  refine wpAny_truthy_bool ?_
  cases k with
  | false =>
    obtain ⟨k', e', q'⟩ := q3
    cases e'
    exact ite_ff ⟨H3, I3, q'⟩
  | true =>
    refine ite_tt (test_link (thn (hc.run pins s3 σ H3 _ I3 q3) fun u2 s4 ⟨y2, H4, I4, r4, q4⟩ => thn (ho' pins s4 σ H4 y y2 u u2 _ I4 r2 r4 q4) fun d' s5 ⟨z2, H5, I5, r5, k2, e2, q5⟩ => ?_))
    subst e2
    cases r5
    refine wpAny_truthy_bool ?_
    cases k2 with
    | false =>
      obtain ⟨k', e', q'⟩ := q5
      cases e'
      exact ite_ff ⟨H5, I5, q'⟩
    | true =>
      refine ite_tt (test_last (thn (hd.run pins s5 σ H5 _ I5 q5) fun w' s6 ⟨z', H6, I6, r6, q6⟩ => thn (ho'' pins s6 σ H6 y2 z' u2 w' _ I6 r4 r6 q6) fun d' s7 ⟨z3, H7, I7, r7, k3, e3, q7⟩ => ?_))
      subst e3
      cases r7
      exact wpAny_truthy_bool ⟨H7, I7, q7⟩
def dChain3 (f f' f'' : D → D → Option D) (da db dc dd : DE) : DE := fun ρ Ω => (da ρ Ω).bind fun x Ω1 => (db ρ Ω1).bind fun y Ω2 => match f x y with
  | some (.bl true) => (dc ρ Ω2).bind fun z Ω3 => match f' y z with
    | some (.bl true) => (dd ρ Ω3).bind fun w Ω4 => lift (f'' z w) Ω4
    | some (.bl false) => .ok (.bl false) Ω3
    | _ => .bad
  | some (.bl false) => .ok (.bl false) Ω2
  | _ => .bad
theorem td_chain3 {td : TE} {dd : DE} {r r' r'' : R2} {f f' f'' : D → D → Option D} (h1 : RD2 K r f) (h2 : RD2 K r' f') (h3 : RD2 K r'' f'') (ha : TD K E ta da) (hb : TD K E tb db) (hc : TD K E tc dc) (hd : TD K E td dd) :
    TD K E (tChain3 r r' r'' ta tb tc td) (dChain3 f f' f'' da db dc dd) := fun g H Ω ρ σ Q S O h =>
  ha g H Ω ρ σ _ S O (Pst.bind h fun x Ω1 g1 H1 v f1 O1 r1 q1 =>
    hb g1 H1 Ω1 ρ σ _ (S.fr f1) O1 (Pst.bind q1 fun y Ω2 g2 H2 w f2 O2 r2 q2 => by
      refine h1 g2 H2 x y v w _ (Rp.step f2.toGSt _ _ r1) r2 ?_
      cases e : f x y with
      | none => rw [e] at q2; exact q2
      | some d =>
        rw [e] at q2
        intro g3 H3 z ex r3
        cases d with
        | bl k =>
          refine ⟨k, r3.bl_inv, ?_⟩
          cases k with
          | false => exact q2 g3 H3 (.bl false) ex.fr (O2.ext ex) Rp.bl
          | true =>
            have q2' : Pst K E g2 H2 (Rp K) Q ((dc ρ Ω2).bind fun z Ω3 => match f' y z with
              | some (.bl true) => (dd ρ Ω3).bind fun w Ω4 => lift (f'' z w) Ω4
              | some (.bl false) => .ok (.bl false) Ω3
              | _ => .bad) := q2
            have S3 := ((S.fr f1).fr f2).fr ex.fr
            refine hc g3 H3 Ω2 ρ σ _ S3 (O2.ext ex) (Pst.bind (Pst.fr ex.fr q2') fun z Ω3 g4 H4 u f4 O4 r4 q4 => ?_)
            refine h2 g4 H4 y z w u _ (Rp.step (ex.fr.trans f4).toGSt _ _ r2) r4 ?_
            cases e' : f' y z with
            | none => rw [e'] at q4; exact q4
            | some d' =>
              rw [e'] at q4
              intro g5 H5 z5 ex5 r5
              cases d' with
              | bl k' =>
                refine ⟨k', r5.bl_inv, ?_⟩
                cases k' with
                | false => exact q4 g5 H5 (.bl false) ex5.fr (O4.ext ex5) Rp.bl
                | true =>
                  have q4' : Pst K E g4 H4 (Rp K) Q ((dd ρ Ω3).bind fun w Ω4 => lift (f'' z w) Ω4) := q4
                  refine hd g5 H5 Ω3 ρ σ _ ((S3.fr f4).fr ex5.fr) (O4.ext ex5) (Pst.bind (Pst.fr ex5.fr q4') fun z6 Ω6 g6 H6 u6 f6 O6 r6 q6 => ?_)
                  exact h3 g6 H6 z z6 u u6 Q (Rp.step (ex5.fr.trans f6).toGSt _ _ r4) r6 (Pst.pure O6 q6)
              | _ => exact q4.elim
        | _ => exact q2.elim))
theorem pdt_chain3 {d : Expr} {td : TE} {dd : DE} {op op' op'' : CmpOp} {r r' r'' : R2} {f f' f'' : D → D → Option D} (o : CmpD X K op r f) (o' : CmpD X K op' r' f') (o'' : CmpD X K op'' r'' f'') (ha : PD X K E a ta da) (hb : PD X K E b tb db) (hc : PD X K E c tc dc) (hd : PD X K E d td dd)
    (hm : lastMarks [op, op', op''] [b, c, d] = false := by with_unfolding_all rfl) :
    PDT X K E (.Compare a [op, op', op''] [b, c, d] pos) (tTest (tChain3 r r' r'' ta tb tc td)) (dTest (dChain3 f f' f'' da db dc dd)) :=
  ⟨o.k, pt_chain3 o.ho o'.ho o''.ho ha.pe hb.pe hc.pe hd.pe hm, tdt_test (td_chain3 o.rd o'.rd o''.rd ha.td hb.td hc.td hd.td)⟩

/-! ### and, or, not, if -/
structure PDW (X : Cx) (K : PySem.W.Frag) (E : XK) (e : Expr) (tt : TT) (dt : DT) : Prop where
  k : X.K = K
  pw : PW X e tt
  td : TDT K E tt dt
theorem pdw_and1 (ha : PDT X K E a tt dt) : PDW X K E (.BoolOp .And [a] pos) tt dt := ⟨ha.k, pw_and1 ha.pt, ha.td⟩
theorem pdw_or1 (ha : PDT X K E a tt dt) : PDW X K E (.BoolOp .Or [a] pos) tt dt := ⟨ha.k, pw_or1 ha.pt, ha.td⟩
theorem pdw_and (ha : PDT X K E a tt dt) (hb : PDW X K E (.BoolOp .And (b :: es) pos) tu du) : PDW X K E (.BoolOp .And (a :: b :: es) pos) (tAnd tt tu) (dAndT dt du) := ⟨ha.k, pw_and ha.pt hb.pw, tdt_and ha.td hb.td⟩
theorem pdw_or (ha : PDT X K E a tt dt) (hb : PDW X K E (.BoolOp .Or (b :: es) pos) tu du) : PDW X K E (.BoolOp .Or (a :: b :: es) pos) (tOr tt tu) (dOrT dt du) := ⟨ha.k, pw_or ha.pt hb.pw, tdt_or ha.td hb.td⟩
theorem pdt_w (h : PDW X K E e tt dt) : PDT X K E e tt dt := ⟨h.k, PW.pt h.pw, h.td⟩
theorem pdt_not (ha : PDT X K E a tt dt) : PDT X K E (.UnaryOp .Not a pos) (tNot tt) (dNotT dt) := ⟨ha.k, pt_not ha.pt, tdt_not ha.td⟩
theorem pdt_val (h : PD X K E e te de) (he : ∀ whole, isTrue e X.env whole = (do let v ← whole; standAt e.pos; holding [v] (truthy v)) := by intro _; rfl) : PDT X K E e (tB te) (dTest de) := ⟨h.k, pt_val h.pe he, tdt_B h.td⟩
def dTruth (da : DE) : DT := fun ρ Ω => (da ρ Ω).bind fun x Ω1 => lift (truth x) Ω1
theorem pdt_truth (h : PD X K E e te de) (he : ∀ whole, isTrue e X.env whole = (do let v ← whole; standAt e.pos; holding [v] (truthy v)) := by intro _; rfl) : PDT X K E e (fun σ H Q => te σ H fun x H' => ∃ k, TruV K x H' k ∧ Q k H') (dTruth de) := by
  obtain ⟨k, pe, td⟩ := h
  subst k
  refine ⟨rfl, pt_truth pe he, fun g H Ω ρ σ Q S O h => td g H Ω ρ σ _ S O (Pst.bind h fun x Ω1 g1 H1 v f1 O1 r1 q => ?_)⟩
  cases x with
  | non => rw [r1.non_inv]; exact ⟨false, rfl, q g1 H1 false Fr.refl O1 rfl⟩
  | bl b => rw [r1.bl_inv]; exact ⟨b, rfl, q g1 H1 b Fr.refl O1 rfl⟩
  | int i => rw [r1.int_inv]; exact ⟨i != 0, rfl, q g1 H1 _ Fr.refl O1 rfl⟩
  | str l =>
    obtain ⟨rfl, z, _⟩ := r1.str_inv
    refine ⟨l.length != 0, ⟨by rw [S_len]; exact Nat.le_trans z lim_le, ?_⟩, q g1 H1 _ Fr.refl O1 rfl⟩
    rw [S_len]
    cases l <;> simp [bne] <;> omega
  | tup ds =>
    obtain ⟨a, vs, rfl, q1, rl, z⟩ := r1.tup_inv
    refine ⟨!ds.isEmpty, .inr (.inl ⟨vs, q1, ?_⟩), q g1 H1 _ Fr.refl O1 rfl⟩
    have := rl.length
    cases ds <;> cases vs <;> first | rfl | (simp at this)
  | lst ds =>
    obtain ⟨a, vs, rfl, q1, rl, z⟩ := r1.lst_inv
    refine ⟨!ds.isEmpty, .inl ⟨vs, q1.seq, ?_⟩, q g1 H1 _ Fr.refl O1 rfl⟩
    have := rl.length
    cases ds <;> cases vs <;> first | rfl | (simp at this)
  | _ => exact q.elim
/-- an own list's truth -/
def dTruQ (dq : DI) : DT := fun ρ Ω => (dq ρ Ω).bind fun ds Ω1 => .ok (!ds.isEmpty) Ω1
theorem pdt_ownTruth (i : Nat) (hN : X.N[i]? = some x := by rfl) (hv : Vis X.env.scope x := by first | exact Or.inl rfl | exact Or.inr (Or.inl rfl) | exact Or.inr (Or.inr rfl)) (hd : (x == ("__debug__" : Str)) = false := by decide)
    (hcd : (x == ("__classdict__" : Str)) = false := by decide) (hk : X.K = K := by rfl) (he : ∀ whole, isTrue (.Name x pos) X.env whole = (do let v ← whole; standAt (Expr.Name x pos).pos; holding [v] (truthy v)) := by intro _; rfl) :
    PDT X K E (.Name x pos) (fun σ H Q => tVar i σ H fun x H' => ∃ k, TruV K x H' k ∧ Q k H') (dTruQ (dOwn i)) := by
  subst hk
  refine ⟨rfl, pt_truth (pe_var hN hv hd hcd) he, fun g H Ω ρ σ Q S O h => tdq_own (K := X.K) (E := E) i g H Ω ρ σ _ S O (Pst.bind h fun ds Ω1 g1 H1 v f1 O1 r1 q => ?_)⟩
  obtain ⟨a, vs, rfl, q1, rl, z⟩ := r1
  refine ⟨!ds.isEmpty, .inl ⟨vs, SqL.of q1.1, ?_⟩, q g1 H1 _ Fr.refl O1 rfl⟩
  have := rl.length
  cases ds <;> cases vs <;> first | rfl | (simp at this)
theorem pd_one {op} (h : PD X K E a ta da) : PD X K E (.BoolOp op [a] pos) ta da := ⟨h.k, pe_one h.pe, h.td⟩
theorem pd_and (ha : PD X K E a ta da) (hb : PD X K E (.BoolOp .And (b :: es) pos) tb db) : PD X K E (.BoolOp .And (a :: b :: es) pos) (tAndV ta tb) (dAndV da db) := ⟨ha.k, pe_and ha.pe hb.pe, td_andV ha.td hb.td⟩
theorem pd_or (ha : PD X K E a ta da) (hb : PD X K E (.BoolOp .Or (b :: es) pos) tb db) : PD X K E (.BoolOp .Or (a :: b :: es) pos) (tOrV ta tb) (dOrV da db) := ⟨ha.k, pe_or ha.pe hb.pe, td_orV ha.td hb.td⟩
theorem pd_not (ha : PD X K E a ta da) : PD X K E (.UnaryOp .Not a pos) (tNotV ta) (dNotV da) := ⟨ha.k, pe_not ha.pe, td_notV ha.td⟩
theorem pd_if (hc : PDT X K E c tt dt) (ha : PD X K E a ta da) (hb : PD X K E b tb db) : PD X K E (.IfExp c a b pos) (tIf tt ta tb) (dIf dt da db) := ⟨ha.k, pe_ifExp hc.pt ha.pe hb.pe, td_if hc.td ha.td hb.td⟩

/-! ### arguments, displays, items, slices -/
theorem pda_nil (hk : X.K = K := by rfl) : PDA X K E [] tNil dNil := ⟨hk, pa_nil, tda_nil⟩
theorem pda_cons (ha : PD X K E e te de) (hr : PDA X K E es tas das) (hs : starEach (e :: es) X.env = (false, eval e X.env) :: starEach es X.env := by rfl) : PDA X K E (e :: es) (tCons te tas) (dCons de das) := ⟨ha.k, pa_cons ha.pe hr.pa hs, tda_cons ha.td hr.td⟩
theorem pd_tup {x1} (h : PDA X K E es tas das) : PD X K E (.Tuple es x1 pos) (tTup tas) (dTup das) := ⟨h.k, pe_tup h.pa, td_tup h.td⟩
theorem pd_lst (h : PDA X K E es tas das) : PD X K E (.List es pos) (tLst tas) (dLst das) := ⟨h.k, pe_lst h.pa, td_lst h.td⟩
theorem pd_ix (ha : PD X K E a ta da) (hb : PD X K E b tb db) (hs : PlainIx b := by exact fun _ _ => rfl) : PD X K E (.Subscript a b pos) (tOp (rIx K) ta tb) (dOp fIx da db) := by
  obtain ⟨k, pa, qa⟩ := ha
  subst k
  exact ⟨rfl, pe_ix ix_seq pa hb.pe hs, td_op rd_ix qa hb.td⟩
structure PDO (X : Cx) (K : PySem.W.Frag) (E : XK) (e : Option Expr) (t : TO) (d : DO) : Prop where
  k : X.K = K
  po : PO X e t
  td : TDO K E t d
theorem pdo_none (hk : X.K = K := by rfl) : PDO X K E none tNoPart dNoP := ⟨hk, po_none, tdo_none⟩
theorem pdo_some (h : PD X K E e te de) : PDO X K E (some e) (tPart te) (dPart de) := ⟨h.k, po_some h.pe, tdo_some h.td⟩
theorem pd_slice {lo hi : Option Expr} {tl th : TO} {dl dh : DO} {p2} (ha : PD X K E a ta da) (hl : PDO X K E lo tl dl) (hh : PDO X K E hi th dh) : PD X K E (.Subscript a (.Slice lo hi none p2) pos) (tSl (rSlU K) ta tl th) (dSl da dl dh) := by
  obtain ⟨k, pa, qa⟩ := ha
  subst k
  exact ⟨rfl, pe_slice or_sl pa hl.po hh.po, td_sl qa hl.td hh.td⟩
/-- an own list's item -/
def dIxQ (dq : DI) (db : DE) : DE := fun ρ Ω => (dq ρ Ω).bind fun ds Ω1 => (db ρ Ω1).bind fun j Ω2 => match j with
  | .int i => lift (atI ds i) Ω2
  | _ => .bad
theorem pd_ownIx (i : Nat) (hb : PD X K E b tb db) (hs : PlainIx b := by exact fun _ _ => rfl) (hN : X.N[i]? = some x := by rfl) (hv : Vis X.env.scope x := by first | exact Or.inl rfl | exact Or.inr (Or.inl rfl) | exact Or.inr (Or.inr rfl)) (hd : (x == ("__debug__" : Str)) = false := by decide)
    (hcd : (x == ("__classdict__" : Str)) = false := by decide) {p2} : PD X K E (.Subscript (.Name x p2) b pos) (tOp (rIx K) (tVar i) tb) (dIxQ (dOwn i) db) := by
  obtain ⟨k, pb, qb⟩ := hb
  subst k
  refine ⟨rfl, pe_ix ix_seq (pe_var hN hv hd hcd) pb hs, fun g H Ω ρ σ Q S O h => tdq_own (K := X.K) (E := E) i g H Ω ρ σ _ S O (Pst.bind h fun ds Ω1 g1 H1 v f1 O1 r1 q => ?_)⟩
  refine qb g1 H1 Ω1 ρ σ _ (S.fr f1) O1 (Pst.bind q fun j Ω2 g2 H2 w f2 O2 r2 q2 => ?_)
  obtain ⟨a, vs, rfl, q1, rl, z⟩ := r1.fr f2
  cases j with
  | int n =>
    have q3 : Pst X.K E g2 H2 (Rp X.K) Q (lift (atI ds n) Ω2) := q2
    cases e : atI ds n with
    | none => rw [e] at q3; exact q3.elim
    | some d =>
      rw [e] at q3
      obtain ⟨j, e1, e2⟩ := atI_len (ys := vs) rl.length.symm e
      obtain ⟨u, e3, ru⟩ := rl.get e1
      exact .inl ⟨a, vs, n, u, rfl, r2.int_inv, SqL.of q1.1, e2 u e3, q3 g2 H2 u Fr.refl O2 ru⟩
  | _ => exact q2.elim
/-- an own list's slice -/
def dSlQ (dq : DI) (dl dh : DO) : DE := fun ρ Ω => (dq ρ Ω).bind fun ds Ω1 => (dl ρ Ω1).bind fun lo Ω2 => (dh ρ Ω2).bind fun hi Ω3 => .ok (.lst (Fm.cut ds lo hi)) Ω3
theorem pd_ownSlice (i : Nat) {lo hi : Option Expr} {tl th : TO} {dl dh : DO} {p2 p3} (hl : PDO X K E lo tl dl) (hh : PDO X K E hi th dh) (hN : X.N[i]? = some x := by rfl) (hv : Vis X.env.scope x := by first | exact Or.inl rfl | exact Or.inr (Or.inl rfl) | exact Or.inr (Or.inr rfl)) (hd : (x == ("__debug__" : Str)) = false := by decide)
    (hcd : (x == ("__classdict__" : Str)) = false := by decide) : PD X K E (.Subscript (.Name x p3) (.Slice lo hi none p2) pos) (tSl (rSlU K) (tVar i) tl th) (dSlQ (dOwn i) dl dh) := by
  obtain ⟨k, pl, ql⟩ := hl
  subst k
  refine ⟨rfl, pe_slice or_sl (pe_var hN hv hd hcd) pl hh.po, fun g H Ω ρ σ Q S O h => tdq_own (K := X.K) (E := E) i g H Ω ρ σ _ S O (Pst.bind h fun ds Ω1 g1 H1 v f1 O1 r1 q => ?_)⟩
  refine ql g1 H1 Ω1 ρ σ _ (S.fr f1) O1 (Pst.bind q fun lo Ω2 g2 H2 lo' f2 O2 r2 q2 => ?_)
  refine hh.td g2 H2 Ω2 ρ σ _ ((S.fr f1).fr f2) O2 (Pst.bind q2 fun hi Ω3 g3 H3 hi' f3 O3 r3 q3 => ?_)
  subst r2 r3
  obtain ⟨a, vs, rfl, q1, rl, z⟩ := (r1.fr f2).fr f3
  exact .inr (.inr ⟨a, vs, rfl, SqL.of q1.1, fun p hp => mkLst (rl.cut _ _) (Nat.le_trans (cut_length _ _ _) z) (fun g' H' b e r => q3 g' H' b e.fr (O3.ext e) r) p hp⟩)
end

/-! ### built-ins -/
section
variable {X : Cx} {K : PySem.W.Frag} {E : XK} {a b c e : Expr} {es : List Expr} {ta tb tc te : TE} {da db dc de : DE} {tt tu : TT} {dt du : DT} {tas : TA} {das : DA} {pos p apos : Pos} {x : Str}
def fLen : List D → Option D
  | [.str l] => some (.int (l.length : Nat))
  | [.tup ds] => some (.int (ds.length : Nat))
  | [.lst ds] => some (.int (ds.length : Nat))
  | [.scr ns] => some (.int (ns.length : Nat))
  | _ => none
def rLenU (K : PySem.W.Frag) : List V → Hp → VK → Prop := fun xs H Q => ∃ x n, xs = [x] ∧ LenV K x H n ∧ Q (.int n) H
theorem one_of {ds : List D} {f : D → Option D} {P : Option D → Prop} (hb : ¬ P none) (h : P (match ds with | [d] => f d | _ => none)) : ∃ d, ds = [d] ∧ P (f d) := by
  match ds, h with
  | [d], h => exact ⟨d, rfl, h⟩
  | [], h => exact absurd h hb
  | _ :: _ :: _, h => exact absurd h hb
theorem rd_len : RDC K (rLenU K) fLen := fun g H xs vs Q r h => by
  match xs, r, h with
  | [d], r, h =>
    obtain ⟨v, rfl, rv⟩ := r.one
    cases d with
    | str l =>
      obtain ⟨rfl, z, _⟩ := rv.str_inv
      exact ⟨_, l.length, rfl, ⟨by rw [S_len]; exact Nat.le_trans z lim_le, by rw [S_len]⟩, h g H _ Ext.refl Rp.int⟩
    | tup ds =>
      obtain ⟨a, ws, rfl, q, rl, z⟩ := rv.tup_inv
      exact ⟨_, ds.length, rfl, .inr ⟨ws, q, rl.length.symm⟩, h g H _ Ext.refl Rp.int⟩
    | lst ds =>
      obtain ⟨a, ws, rfl, q, rl, z⟩ := rv.lst_inv
      exact ⟨_, ds.length, rfl, .inl ⟨ws, q.seq, rl.length.symm⟩, h g H _ Ext.refl Rp.int⟩
    | scr ns =>
      simp only [Rp] at rv
      obtain ⟨a, rfl, q⟩ := rv
      exact ⟨_, ns.length, rfl, .inl ⟨_, q.seq, by simp⟩, h g H _ Ext.refl Rp.int⟩
    | _ => exact h.elim
  | [], _, h => exact h.elim
  | d1 :: _ :: _, _, h => cases d1 <;> exact h.elim
/-- a built-in called by its name: its three parts -/
structure BltD (X : Cx) (K : PySem.W.Frag) (f : Value) (r : List V → Hp → VK → Prop) (fd : List D → Option D) : Prop where
  k : X.K = K
  cr : CallR X f r
  rd : RDC K r fd
theorem pd_blt {id : String} {r : List V → Hp → VK → Prop} {fd : List D → Option D} (o : BltD X K (.builtin id) r fd) (hg : Gl X x) (hm : X.mg x = none) (hv : bootBuiltins x = some (.builtin id)) (ha : PDA X K E (e :: es) tas das) (hn : x ≠ "__name__" := by decide) (hdb : (x == ("__debug__" : Str)) = false := by decide)
    (he : starEach (e :: es) X.env = (false, eval e X.env) :: starEach es X.env := by rfl) (hpl : (backTo pos (starEach es X.env)).any (·.1) = false := by rfl) : PD X K E (.Call (.Name x p) (e :: es) [] pos) (tCB r tas) (dCB fd das) :=
  ⟨o.k, pe_callB o.cr hg hm hv ha.pa hn hdb he hpl, td_cb o.rd ha.td⟩
theorem pd_bty {T : String} {r : List V → Hp → VK → Prop} {fd : List D → Option D} (o : BltD X K (.type T) r fd) (hg : Gl X x) (hm : X.mg x = none) (hv : bootBuiltins x = some (.type T)) (ha : PDA X K E (e :: es) tas das) (hn : x ≠ "__name__" := by decide) (hdb : (x == ("__debug__" : Str)) = false := by decide)
    (he : starEach (e :: es) X.env = (false, eval e X.env) :: starEach es X.env := by rfl) (hpl : (backTo pos (starEach es X.env)).any (·.1) = false := by rfl) : PD X K E (.Call (.Name x p) (e :: es) [] pos) (tCB r tas) (dCB fd das) :=
  ⟨o.k, pe_callTy o.cr hg hm hv ha.pa hn hdb he hpl, td_cb o.rd ha.td⟩
theorem b_len (hk : X.K = K := by rfl) : BltD X K (.builtin "len") (rLenU K) fLen := by subst hk; exact ⟨rfl, call_len, rd_len⟩
def fTuple : List D → Option D
  | [.lst ds] => some (.tup ds)
  | [.tup ds] => some (.tup ds)
  | _ => none
def fList : List D → Option D
  | [.lst ds] => some (.lst ds)
  | [.tup ds] => some (.lst ds)
  | _ => none
def rTupU (K : PySem.W.Frag) : List V → Hp → VK → Prop := fun xs H Q => ∃ p ys, xs = [.ref p] ∧ ((SqL K H p ys ∧ ∀ l, H l = none → Q (.ref l) (upd H l (.tup ys))) ∨ (SqT K H p ys ∧ Q (.ref p) H))
def rLstU (K : PySem.W.Frag) : List V → Hp → VK → Prop := fun xs H Q => ∃ p ys, xs = [.ref p] ∧ (SqL K H p ys ∨ SqT K H p ys) ∧ ∀ l, H l = none → Q (.ref l) (upd H l (.lst ys))
theorem rd_tuple : RDC K (rTupU K) fTuple := fun g H xs vs Q r h => by
  match xs, r, h with
  | [d], r, h =>
    obtain ⟨v, rfl, rv⟩ := r.one
    cases d with
    | tup ds =>
      obtain ⟨a, ws, rfl, q, rl, z⟩ := rv.tup_inv
      exact ⟨a, ws, rfl, .inr ⟨q, h g H _ Ext.refl rv⟩⟩
    | lst ds =>
      obtain ⟨a, ws, rfl, q, rl, z⟩ := rv.lst_inv
      exact ⟨a, ws, rfl, .inl ⟨q.seq, fun p hp => mkTup rl z h p hp⟩⟩
    | _ => exact h.elim
  | [], _, h => exact h.elim
  | d1 :: _ :: _, _, h => cases d1 <;> exact h.elim
theorem rd_list : RDC K (rLstU K) fList := fun g H xs vs Q r h => by
  match xs, r, h with
  | [d], r, h =>
    obtain ⟨v, rfl, rv⟩ := r.one
    cases d with
    | tup ds =>
      obtain ⟨a, ws, rfl, q, rl, z⟩ := rv.tup_inv
      exact ⟨a, ws, rfl, .inr q, fun p hp => mkLst rl z h p hp⟩
    | lst ds =>
      obtain ⟨a, ws, rfl, q, rl, z⟩ := rv.lst_inv
      exact ⟨a, ws, rfl, .inl q.seq, fun p hp => mkLst rl z h p hp⟩
    | _ => exact h.elim
  | [], _, h => exact h.elim
  | d1 :: _ :: _, _, h => cases d1 <;> exact h.elim
theorem b_tuple (hk : X.K = K := by rfl) : BltD X K (.type "tuple") (rTupU K) fTuple := by subst hk; exact ⟨rfl, call_tuple_of, rd_tuple⟩
theorem b_list (hk : X.K = K := by rfl) : BltD X K (.type "list") (rLstU K) fList := by subst hk; exact ⟨rfl, call_list_of, rd_list⟩
/-- tuple(x), len(x), x an own list -/
def dTupQ (dq : DI) : DE := fun ρ Ω => (dq ρ Ω).bind fun ds Ω1 => .ok (.tup ds) Ω1
def dLenQ (dq : DI) : DE := fun ρ Ω => (dq ρ Ω).bind fun ds Ω1 => .ok (.int (ds.length : Nat)) Ω1
theorem pd_ownTuple (i : Nat) {y : Str} {p2} (hg : Gl X y) (hm : X.mg y = none) (hy : y = "tuple" := by rfl) (hN : X.N[i]? = some x := by rfl) (hv : Vis X.env.scope x := by first | exact Or.inl rfl | exact Or.inr (Or.inl rfl) | exact Or.inr (Or.inr rfl)) (hd : (x == ("__debug__" : Str)) = false := by decide)
    (hcd : (x == ("__classdict__" : Str)) = false := by decide) (hk : X.K = K := by rfl) (hs : starEach [.Name x p2] X.env = (false, eval (.Name x p2) X.env) :: starEach [] X.env := by rfl) : PD X K E (.Call (.Name y p) [.Name x p2] [] pos) (tCB (rTupU K) (tCons (tVar i) tNil)) (dTupQ (dOwn i)) := by
  subst hk hy
  refine ⟨rfl, pe_callTy call_tuple_of hg hm (by decide +kernel) (pa_cons (pe_var hN hv hd hcd) pa_nil hs) (by decide) (by decide) hs, fun g H Ω ρ σ Q S O h => tdq_own (K := X.K) (E := E) i g H Ω ρ σ _ S O (Pst.bind h fun ds Ω1 g1 H1 v f1 O1 r1 q => ?_)⟩
  obtain ⟨a, vs, rfl, q1, rl, z⟩ := r1
  exact ⟨a, vs, rfl, .inl ⟨SqL.of q1.1, fun p hp => mkTup rl z (fun g' H' b e r => q g' H' b e.fr (O1.ext e) r) p hp⟩⟩
theorem pd_ownLen (i : Nat) {y : Str} {p2} (hg : Gl X y) (hm : X.mg y = none) (hy : y = "len" := by rfl) (hN : X.N[i]? = some x := by rfl) (hv : Vis X.env.scope x := by first | exact Or.inl rfl | exact Or.inr (Or.inl rfl) | exact Or.inr (Or.inr rfl)) (hd : (x == ("__debug__" : Str)) = false := by decide)
    (hcd : (x == ("__classdict__" : Str)) = false := by decide) (hk : X.K = K := by rfl) (hs : starEach [.Name x p2] X.env = (false, eval (.Name x p2) X.env) :: starEach [] X.env := by rfl) : PD X K E (.Call (.Name y p) [.Name x p2] [] pos) (tCB (rLenU K) (tCons (tVar i) tNil)) (dLenQ (dOwn i)) := by
  subst hk hy
  refine ⟨rfl, pe_callB call_len hg hm PySem.boot_len (pa_cons (pe_var hN hv hd hcd) pa_nil hs) (by decide) (by decide) hs, fun g H Ω ρ σ Q S O h => tdq_own (K := X.K) (E := E) i g H Ω ρ σ _ S O (Pst.bind h fun ds Ω1 g1 H1 v f1 O1 r1 q => ?_)⟩
  obtain ⟨a, vs, rfl, q1, rl, z⟩ := r1
  exact ⟨_, ds.length, rfl, .inl ⟨vs, SqL.of q1.1, rl.length.symm⟩, q g1 H1 _ Fr.refl O1 Rp.int⟩
/-! texts' methods -/
def fLower : D → Option D
  | .str l => some (.str (l.map PyProof.Rows.lo1))
  | _ => none
def fUpper : D → Option D
  | .str l => some (.str (l.map PyProof.Rows.up1))
  | _ => none
theorem asc_lo {l : List Nat} (h : asc l = true) : asc (l.map PyProof.Rows.lo1) = true := by
  unfold asc at *
  rw [List.all_map]
  refine List.all_eq_true.mpr fun c hc => ?_
  have := of_decide_eq_true (List.all_eq_true.mp h c hc)
  show decide (PyProof.Rows.lo1 c < 128) = true
  unfold PyProof.Rows.lo1
  split <;> exact decide_eq_true (by omega)
theorem asc_up {l : List Nat} (h : asc l = true) : asc (l.map PyProof.Rows.up1) = true := by
  unfold asc at *
  rw [List.all_map]
  refine List.all_eq_true.mpr fun c hc => ?_
  have := of_decide_eq_true (List.all_eq_true.mp h c hc)
  show decide (PyProof.Rows.up1 c < 128) = true
  unfold PyProof.Rows.up1
  split <;> exact decide_eq_true (by omega)
def tM0f (r : V → List V → Hp → VK → Prop) (to : TE) : TE := tM0 r to
theorem td_m0 {r : V → List V → Hp → VK → Prop} {f : D → Option D} (hf : ∀ d, (∀ l, d ≠ .str l) → f d = none) (hr : ∀ g H l v Q, Rp K g H (.str l) v → PstX K g H (Rp K) Q (f (.str l)) → r v [] H Q) (ha : TD K E ta da) : TD K E (tM0 r ta) (dUn f da) := fun g H Ω ρ σ Q S O h =>
  ha g H Ω ρ σ _ S O (Pst.bind h fun x Ω1 g1 H1 v f1 O1 r1 q => by
    cases x with
    | str l => exact ⟨⟨_, r1.str_inv.1⟩, hr g1 H1 l v Q r1 (Pst.pure O1 q)⟩
    | _ => rw [hf _ (fun _ z => by cases z)] at q; exact q.elim)
theorem S_eq (l : List Nat) : (⟨l.toArray⟩ : Str) = SX.S l := rfl
theorem pd_lower (ha : PD X K E a ta da) (hbase : attributeBase a "lower" X.env (eval a X.env) = eval a X.env := by rfl) (hline : (apos.endLine == pos.line) = true := by rfl) :
    PD X K E (.Call (.Attribute a "lower" apos) [] [] pos) (tM0 (fun x xs H Q => ∃ a, x = .str a ∧ xs = [] ∧ a.length ≤ 5592405 ∧ Q (.str (Txt.lower a)) H) ta) (dUn fLower da) :=
  ⟨ha.k, pe_lower ha.pe hbase hline, td_m0 (fun d h => by cases d <;> first | rfl | exact absurd rfl (h _)) (fun g H l v Q r h => by
    obtain ⟨rfl, z, w⟩ := r.str_inv
    refine ⟨_, rfl, rfl, by rw [S_len]; exact Nat.le_trans z lim_low, ?_⟩
    rw [S_eq, SX.lower_S w]
    exact h g H _ Ext.refl (Rp.str (by rw [List.length_map]; exact z) (asc_lo w))) ha.td⟩
theorem pd_upper (ha : PD X K E a ta da) (hbase : attributeBase a "upper" X.env (eval a X.env) = eval a X.env := by rfl) (hline : (apos.endLine == pos.line) = true := by rfl) :
    PD X K E (.Call (.Attribute a "upper" apos) [] [] pos) (tM0 (fun x xs H Q => ∃ a, x = .str a ∧ xs = [] ∧ a.length ≤ 5592405 ∧ Q (.str (Txt.upper a)) H) ta) (dUn fUpper da) :=
  ⟨ha.k, pe_upper ha.pe hbase hline, td_m0 (fun d h => by cases d <;> first | rfl | exact absurd rfl (h _)) (fun g H l v Q r h => by
    obtain ⟨rfl, z, w⟩ := r.str_inv
    refine ⟨_, rfl, rfl, by rw [S_len]; exact Nat.le_trans z lim_low, ?_⟩
    rw [S_eq, SX.upper_S w]
    exact h g H _ Ext.refl (Rp.str (by rw [List.length_map]; exact z) (asc_up w))) ha.td⟩
end
end Fm
/-! Fm, part 8: statements, walks, comprehensions, calls: one rule a construct. -/
namespace Fm
open PySem PySem.Spec L2
open PyProof.Rows hiding St

section
variable {X : Cx} {K : PySem.W.Frag} {E : XK} {a b c e : Expr} {es : List Expr} {ta tb tc te : TE} {da db dc de : DE} {tt tu : TT} {dt du : DT} {tas : TA} {das : DA} {pos p apos : Pos} {x y : Str}
  {st : Stmt} {sts rest : List Stmt} {ts tr tz : TS} {ds dr dz : DS}
theorem pds_nil (hk : X.K = K := by rfl) : PDSs X K E [] tNext dNext := ⟨hk, pss_nil, tds_next⟩
theorem pds_cons (h1 : PDS X K E st ts ds) (h2 : PDSs X K E rest tr dr) : PDSs X K E (st :: rest) (tSeq ts tr) (dSeq ds dr) := ⟨h1.k, pss_cons h1.ps h2.ps, tds_seq h1.td h2.td⟩
theorem pds_one (h1 : PDS X K E st ts ds) : PDSs X K E [st] ts ds := ⟨h1.k, pss_one h1.ps, h1.td⟩
theorem pd_expr (h : PD X K E e te de) (hs : swapsWith e none pos.line X.env = pure false := by rfl) : PDS X K E (.Expr e pos) (tDrop te) (dDrop de) := ⟨h.k, ps_expr h.pe hs, tds_drop h.td⟩
theorem pd_ret (h : PD X K E e te de) : PDS X K E (.Return (some e) pos) (tRet te) (dRet de) := ⟨h.k, ps_ret h.pe, tds_ret h.td⟩
theorem pd_retN (hk : X.K = K := by rfl) : PDS X K E (.Return none pos) tRetN dRetN := ⟨hk, ps_retN, tds_retN⟩
theorem pd_pass (hk : X.K = K := by rfl) : PDS X K E (.Pass pos) tNext dNext := ⟨hk, ps_pass, tds_next⟩
theorem pd_ifS (hc : PDT X K E c tt dt) (h1 : PDSs X K E sts ts ds) (h2 : PDSs X K E rest tr dr) : PDS X K E (.If c sts rest pos) (tIfS tt ts tr) (dIfS dt ds dr) := ⟨hc.k, ps_if hc.pt h1.ps h2.ps, tds_if hc.td h1.td h2.td⟩
theorem pd_retOwn (i : Nat) {p2} (hN : X.N[i]? = some x := by rfl) (hv : Vis X.env.scope x := by first | exact Or.inl rfl | exact Or.inr (Or.inl rfl) | exact Or.inr (Or.inr rfl)) (hd : (x == ("__debug__" : Str)) = false := by decide)
    (hcd : (x == ("__classdict__" : Str)) = false := by decide) (hk : X.K = K := by rfl) : PDS X K E (.Return (some (.Name x p2)) pos) (tRet (tVar i)) (dRetOwn i) := ⟨hk, ps_ret (pe_var hN hv hd hcd), tds_retOwn i⟩
/-! targets -/
structure PDG (X : Cx) (K : PySem.W.Frag) (tg : Expr) (t : TG) (d : DG) : Prop where
  k : X.K = K
  pg : PG X tg t
  td : TDG K t d
structure PDGs (X : Cx) (K : PySem.W.Frag) (tg : List Expr) (t : TGs) (d : DGs) : Prop where
  k : X.K = K
  pg : PGs X tg t
  td : TDGs K t d
theorem pg_n (i : Nat) (hN : X.N.Nodup) (hi : X.N[i]? = some x := by rfl) (hx : Loc X.env.scope x := by first | exact Or.inl rfl | exact Or.inr rfl) (hf : X.fn x = true ∨ X.env.scope.names.lookup x = some .local := by first | exact .inl rfl | exact .inr rfl) (hk : X.K = K := by rfl) :
    PDG X K (.Name x pos) (gName i) (gN i) := ⟨hk, pg_name hN hi hx hf, tdg_name i⟩
theorem pgs_0 (hk : X.K = K := by rfl) : PDGs X K [] gNil gNs0 := ⟨hk, pgs_nil, tdgs_nil⟩
theorem pgs_c {t : TG} {d : DG} {u : TGs} {v : DGs} (h1 : PDG X K e t d) (h2 : PDGs X K es u v) (hs : (assignEach (e :: es) X.env).map (·.2) = assign e X.env :: (assignEach es X.env).map (·.2) := by rfl) : PDGs X K (e :: es) (gCons t u) (gNsC d v) := ⟨h1.k, pgs_cons h1.pg h2.pg hs, tdgs_cons h1.td h2.td⟩
theorem pg_t {u : TGs} {v : DGs} {n k : Nat} (hc : X.calm = true) (h : PDGs X K es u v) (hn : (assignEach es X.env).length = n := by rfl) (hst : (assignEach es X.env).findIdx? (·.1) = none := by rfl) : PDG X K (.Tuple es k pos) (gTup K n u) (gT n v) := by
  obtain ⟨k, pg, td⟩ := h
  subst k
  exact ⟨rfl, pg_tup hc pg hn hst, tdg_tup td⟩
theorem pd_set (i : Nat) {p2} (hN : X.N.Nodup) (h : PD X K E e te de) (hi : X.N[i]? = some x := by rfl) (hx : Loc X.env.scope x := by first | exact Or.inl rfl | exact Or.inr rfl) (hs : swapsWith e (some (.Name x p2)) pos.line X.env = pure false := by rfl) (hf : X.fn x = true ∨ X.env.scope.names.lookup x = some .local := by first | exact .inl rfl | exact .inr rfl) :
    PDS X K E (.Assign [.Name x p2] e pos) (tAsg te (gName i)) (dAsg de (gN i)) := ⟨h.k, ps_set hN hi hx h.pe hs hf, tds_asg h.td (tdg_name i)⟩
theorem pd_asgT {tg : Expr} {t : TG} {d : DG} (h : PD X K E e te de) (g : PDG X K tg t d) (hs : swapsWithSole [tg] e pos.line X.env = pure false := by rfl) (hw : swappedStores [tg] e X.env = pure none := by rfl) (h1 : (assignEach [tg] X.env).map (·.2) = [assign tg X.env] := by rfl) :
    PDS X K E (.Assign [tg] e pos) (tAsg te t) (dAsg de d) := ⟨h.k, ps_asg h.pe g.pg hs hw h1, tds_asg h.td g.td⟩
theorem pd_par (i j : Nat) {px py pt : Pos} {kt k2 pt2} (hc : X.calm = true) (hN : X.N.Nodup) (h : PDA X K E [a, b] tas das) (hi : X.N[i]? = some x := by rfl) (hj : X.N[j]? = some y := by rfl) (hij : i ≠ j := by decide)
    (hx : X.env.scope.names.lookup x = some .local := by rfl) (hy : X.env.scope.names.lookup y = some .local := by rfl)
    (hw : swappedStores [.Tuple [.Name x px, .Name y py] kt pt] (.Tuple [a, b] k2 pt2) X.env = pure (some [x, y]) := by rfl)
    (hs : swapsWithSole [.Tuple [.Name x px, .Name y py] kt pt] (.Tuple [a, b] k2 pt2) pos.line X.env = pure false := by rfl) :
    PDS X K E (.Assign [.Tuple [.Name x px, .Name y py] kt pt] (.Tuple [a, b] k2 pt2) pos) (tPar i j tas) (dPar i j das) := ⟨h.k, ps_par hc hN hi hj hij hx hy h.pa hw hs, tds_par h.td⟩
theorem pd_new (i : Nat) {p2 p3} (hN : X.N.Nodup) (h : PDA X K E es tas das) (hi : X.N[i]? = some x := by rfl) (hx : Loc X.env.scope x := by first | exact Or.inl rfl | exact Or.inr rfl) (hs : swapsWith (.List es p3) (some (.Name x p2)) pos.line X.env = pure false := by rfl) (hf : X.fn x = true ∨ X.env.scope.names.lookup x = some .local := by first | exact .inl rfl | exact .inr rfl) :
    PDS X K E (.Assign [.Name x p2] (.List es p3) pos) (tAsg (tLst tas) (gName i)) (dNew i das) := ⟨h.k, ps_set hN hi hx (pe_lst h.pa) hs hf, tds_new h.td⟩
theorem pd_app (i : Nat) {p2 p3 cp} (h : PD X K E e te de) (hN : X.N[i]? = some x := by rfl) (hv : Vis X.env.scope x := by first | exact Or.inl rfl | exact Or.inr (Or.inl rfl) | exact Or.inr (Or.inr rfl)) (hd : (x == ("__debug__" : Str)) = false := by decide)
    (hcd : (x == ("__classdict__" : Str)) = false := by decide) (hs : swapsWith (.Call (.Attribute (.Name x p2) "append" p3) [e] [] cp) none pos.line X.env = pure false := by rfl)
    (hbase : attributeBase (.Name x p2) "append" X.env (eval (.Name x p2) X.env) = eval (.Name x p2) X.env := by rfl)
    (hfew : ((backTo cp (starEach [e] X.env)).all (fun x => !x.1) && (backToKw cp (keywordEach [] X.env)).all (fun x => x.1.isSome)
      && decide ([e].length + ([] : List Keyword).length + (if ([] : List Keyword).isEmpty then 0 else 1) < 30)) = true := by rfl)
    (hline : (p3.endLine == cp.line) = true := by rfl) (hs2 : starEach [e] X.env = (false, eval e X.env) :: starEach [] X.env := by rfl) (hplain : (backTo cp (starEach [] X.env)).any (·.1) = false := by rfl) :
    PDS X K E (.Expr (.Call (.Attribute (.Name x p2) "append" p3) [e] [] cp) pos) (tDrop (tBM K "list" rAppend (tVar i) (tCons te tNil))) (dApp i de) := by
  obtain ⟨k, pe, td⟩ := h
  subst k
  exact ⟨rfl, ps_expr (pe_bm PySem.F.plainAttrs_list PySem.F.slot_list_append PySem.F.type_list_append mt_append (pe_var hN hv hd hcd) (pa_cons pe pa_nil hs2) hbase hfew hline hs2 hplain) hs, tds_app td⟩
theorem pd_ext (i : Nat) {p2 p3 cp} (h : PD X K E e te de) (hN : X.N[i]? = some x := by rfl) (hv : Vis X.env.scope x := by first | exact Or.inl rfl | exact Or.inr (Or.inl rfl) | exact Or.inr (Or.inr rfl)) (hd : (x == ("__debug__" : Str)) = false := by decide)
    (hcd : (x == ("__classdict__" : Str)) = false := by decide) (hs : swapsWith (.Call (.Attribute (.Name x p2) "extend" p3) [e] [] cp) none pos.line X.env = pure false := by rfl)
    (hbase : attributeBase (.Name x p2) "extend" X.env (eval (.Name x p2) X.env) = eval (.Name x p2) X.env := by rfl)
    (hfew : ((backTo cp (starEach [e] X.env)).all (fun x => !x.1) && (backToKw cp (keywordEach [] X.env)).all (fun x => x.1.isSome)
      && decide ([e].length + ([] : List Keyword).length + (if ([] : List Keyword).isEmpty then 0 else 1) < 30)) = true := by rfl)
    (hline : (p3.endLine == cp.line) = true := by rfl) (hs2 : starEach [e] X.env = (false, eval e X.env) :: starEach [] X.env := by rfl) (hplain : (backTo cp (starEach [] X.env)).any (·.1) = false := by rfl) :
    PDS X K E (.Expr (.Call (.Attribute (.Name x p2) "extend" p3) [e] [] cp) pos) (tDrop (tBM K "list" rExtend (tVar i) (tCons te tNil))) (dExt i de) := by
  obtain ⟨k, pe, td⟩ := h
  subst k
  exact ⟨rfl, ps_expr (pe_bm PySem.F.plainAttrs_list PySem.F.slot_list_extend PySem.F.type_list_extend mt_extend (pe_var hN hv hd hcd) (pa_cons pe pa_nil hs2) hbase hfew hline hs2 hplain) hs, tds_ext td⟩
theorem pd_setI (i : Nat) {p2 p3} (h : PD X K E e te de) (hj : PD X K E b tb db) (hN : X.N[i]? = some x := by rfl) (hv : Vis X.env.scope x := by first | exact Or.inl rfl | exact Or.inr (Or.inl rfl) | exact Or.inr (Or.inr rfl)) (hd : (x == ("__debug__" : Str)) = false := by decide)
    (hcd : (x == ("__classdict__" : Str)) = false := by decide) (hs : swapsWithSole [.Subscript (.Name x p2) b p3] e pos.line X.env = pure false := by rfl) (hw : swappedStores [.Subscript (.Name x p2) b p3] e X.env = pure none := by rfl)
    (h1 : (assignEach [.Subscript (.Name x p2) b p3] X.env).map (·.2) = [assign (.Subscript (.Name x p2) b p3) X.env] := by rfl)
    (ha : ∀ v, assign (.Subscript (.Name x p2) b p3) X.env v = (do
      let ov ← holding [v] (eval (.Name x p2) X.env)
      let iv ← holding [v, ov] (eval b X.env)
      standAt p3
      holding [v, ov, iv] (setItem ov iv v)
      release [v, ov, iv] []) := by intro _; rfl) :
    PDS X K E (.Assign [.Subscript (.Name x p2) b p3] e pos) (tAsg te (gSub (tVar i) tb rSetL)) (dSetI i de db) :=
  ⟨h.k, ps_asg h.pe (pg_sub (pe_var hN hv hd hcd) hj.pe set_list ha) hs hw h1, tds_setI h.td hj.td⟩
/-! loops -/
theorem pd_while (hp : PassesOwn (model X.prog X.w) X.A X.env X.xe) (hc : PDT X K E c tt dt) (hb : PDSs X K E sts ts ds) : PDS X K E (.While c sts [] pos) (tWhile tt ts) (dWhile dt ds) := ⟨hc.k, ps_while hp hc.pt hb.ps, tds_while hc.td hb.td⟩
theorem pd_for {tg iter : Expr} {ti : TI} {di : DI} {t : TG} {d : DG} (hp : PassesOwn (model X.prog X.w) X.A X.env X.xe) (hc : X.calm = true) (hi : PDI X K E tg iter ti di) (hg : PDG X K tg t d) (hb : PDSs X K E sts ts ds)
    (hs : ∀ x, foldedSetIterable iter X.env x = pure x := by intro _; rfl) : PDS X K E (.For tg iter sts [] pos) (tFor ti t ts) (dFor di d ds) := ⟨hi.k, ps_for hp hc hi.pi hg.pg hb.ps hs, tds_for hi.td hg.td hb.td⟩
theorem pi_l {tg : Expr} (h : PD X K E e te de) : PDI X K E tg e (iList K te) (asLst de) := by
  obtain ⟨k, pe, td⟩ := h
  subst k
  exact ⟨rfl, pi_list pe, tdi_lst td⟩
theorem pi_t {tg : Expr} (h : PD X K E e te de) : PDI X K E tg e (iTup K te) (asTup de) := by
  obtain ⟨k, pe, td⟩ := h
  subst k
  exact ⟨rfl, pi_tup pe, tdi_tup td⟩
theorem pi_s {tg : Expr} (h : PD X K E e te de) : PDI X K E tg e (iStr te) (asStr de) := ⟨h.k, pi_str h.pe, tdi_str h.td⟩
theorem pi_r1 {tg : Expr} (hm : X.mg "range" = none) (h : PDA X K E [a] tas das) (hg : Gl X "range" := by rfl) (hs : starEach [a] X.env = [(false, eval a X.env)] := by rfl) : PDI X K E tg (.Call (.Name "range" p) [a] [] pos) (iRng1 tas) (asR1 das) := ⟨h.k, pi_range1 hg hm h.pa hs, tdi_r1 h.td⟩
theorem pi_r2 {tg : Expr} (hm : X.mg "range" = none) (h : PDA X K E [a, b] tas das) (hg : Gl X "range" := by rfl) (hs : starEach [a, b] X.env = [(false, eval a X.env), (false, eval b X.env)] := by rfl) (hs2 : starEach [b] X.env = [(false, eval b X.env)] := by rfl) :
    PDI X K E tg (.Call (.Name "range" p) [a, b] [] pos) (iRng2 tas) (asR2 das) := ⟨h.k, pi_range2 hg hm h.pa hs hs2, tdi_r2 h.td⟩
theorem pi_enL {elts : List Expr} {kk : Nat} {tpos : Pos} (hm : X.mg "enumerate" = none) (h : PDA X K E [a] tas das) (hg : Gl X "enumerate" := by rfl) (hs : starEach [a] X.env = [(false, eval a X.env)] := by rfl) :
    PDI X K E (.Tuple elts kk tpos) (.Call (.Name "enumerate" p) [a] [] pos) (iEnum K tas) (asEnL das) := by
  obtain ⟨k, pa, td⟩ := h
  subst k
  exact ⟨rfl, pi_enum hg hm pa hs, tdi_enL td⟩
/-! comprehensions -/
abbrev NoE : XK := fun _ _ _ => False
structure PDTs (X : Cx) (K : PySem.W.Frag) (E : XK) (ifs : List Expr) (tt : TT) (dt : DT) : Prop where
  k : X.K = K
  pt : PTs X ifs tt
  td : TDT K E tt dt
theorem pdts_nil (hk : X.K = K := by rfl) : PDTs X K E [] tYes dYes := ⟨hk, pts_nil, tdt_yes⟩
theorem pdts_one (h : PDT X K E c tt dt) : PDTs X K E [c] tt dt := ⟨h.k, pts_one h.pt, h.td⟩
/-- within a comprehension nothing may be raised -/
def _root_.Fm.Res.nx {α : Type} (r : Res α) : Res α := match r with
  | .exc _ _ => .bad
  | r => r
theorem Pst.nx {α β : Type} {g : G} {H : Hp} {rep : G → Hp → α → β → Prop} {Q : β → Hp → Prop} : ∀ {r : Res α}, Pst K E g H rep Q r.nx → Pst K NoE g H rep Q r
  | .ok _ _, q => q
  | .exc _ _, q => False.elim q
  | .bad, q => q
def nxT (dt : DT) : DT := fun ρ Ω => (dt ρ Ω).nx
def nxE (de : DE) : DE := fun ρ Ω => (de ρ Ω).nx
theorem TDT.noE (h : TDT K NoE tt dt) : TDT K E tt (nxT dt) := fun g H Ω ρ σ Q S O q => h g H Ω ρ σ Q S O (Pst.nx q)
theorem TD.noE (h : TD K NoE te de) : TD K E te (nxE de) := fun g H Ω ρ σ Q S O q => h g H Ω ρ σ Q S O (Pst.nx q)
theorem pd_lc {elt tg iter : Expr} {ifs : List Expr} {scope : Scope} {own : List (Str × Nat)} {ti : TI} {di : DI} {t : TG} {d : DG} (hc : X.calm = true) (hN : X.N.Nodup) (hi : PDI X K E tg iter ti di) (ok : BlkOk X.N X.env.scope scope own)
    (hg : ∀ (s : Shared) (H : Hp) (C : Addr) (cl : List (Str × Addr)) (fp : List Addr), PDG (X.blk s H scope (compEnvC scope cl C X.env) fp) K tg t d)
    (ht : ∀ (s : Shared) (H : Hp) (C : Addr) (cl : List (Str × Addr)) (fp : List Addr), PDTs (X.blk s H scope (compEnvC scope cl C X.env) fp) K NoE ifs tt dt)
    (he : ∀ (s : Shared) (H : Hp) (C : Addr) (cl : List (Str × Addr)) (fp : List Addr), PD (X.blk s H scope (compEnvC scope cl C X.env) fp) K NoE elt te de)
    (hw : TGok t (own.map (·.2))) (hs : ∀ x, foldedSetIterable iter X.env x = pure x := by intro _; rfl) :
    PD X K E (.ListComp elt [⟨tg, iter, ifs, 0⟩] scope pos) (tLc ti t tt te (own.map (·.2))) (dLc di d (nxT dt) (nxE de) (own.map (·.2))) :=
  ⟨hi.k, pe_lc hc hN hi.pi ok (fun s H C cl fp => (hg s H C cl fp).pg) (fun s H C cl fp => (ht s H C cl fp).pt) (fun s H C cl fp => (he s H C cl fp).pe) hs,
    td_lc hi.td (hg X.s_0 X.H_0 0 [] []).td hw (TDT.noE (ht X.s_0 X.H_0 0 [] []).td) (TD.noE (he X.s_0 X.H_0 0 [] []).td)⟩
theorem pd_setLc (i : Nat) {p2 : Pos} {elt tg iter : Expr} {ifs : List Expr} {scope : Scope} {own : List (Str × Nat)} {spos : Pos} {ti : TI} {di : DI} {t : TG} {d : DG} (hc : X.calm = true) (hN : X.N.Nodup) (hi : PDI X K E tg iter ti di) (ok : BlkOk X.N X.env.scope scope own)
    (hg : ∀ (s : Shared) (H : Hp) (C : Addr) (cl : List (Str × Addr)) (fp : List Addr), PDG (X.blk s H scope (compEnvC scope cl C X.env) fp) K tg t d)
    (ht : ∀ (s : Shared) (H : Hp) (C : Addr) (cl : List (Str × Addr)) (fp : List Addr), PDTs (X.blk s H scope (compEnvC scope cl C X.env) fp) K NoE ifs tt dt)
    (he : ∀ (s : Shared) (H : Hp) (C : Addr) (cl : List (Str × Addr)) (fp : List Addr), PD (X.blk s H scope (compEnvC scope cl C X.env) fp) K NoE elt te de)
    (hw : TGok t (own.map (·.2))) (hyl : X.env.scope.names.lookup y = some .local := by rfl)
    (hsw : swapsWith (.ListComp elt [⟨tg, iter, ifs, 0⟩] scope pos) (some (.Name y p2)) spos.line X.env = pure true := by exact sw_true rfl rfl rfl (by decide +kernel)) (hy : X.N[i]? = some y := by rfl) (hs : ∀ x, foldedSetIterable iter X.env x = pure x := by intro _; rfl) :
    PDS X K E (.Assign [.Name y p2] (.ListComp elt [⟨tg, iter, ifs, 0⟩] scope pos) spos) (tAsg (tLc ti t tt te (own.map (·.2))) (gName i)) (dAsg (dLc di d (nxT dt) (nxE de) (own.map (·.2))) (gN i)) :=
  ⟨hi.k, ps_setLc hc hN hy hyl hsw hi.pi ok (fun s H C cl fp => (hg s H C cl fp).pg) (fun s H C cl fp => (ht s H C cl fp).pt) (fun s H C cl fp => (he s H C cl fp).pe) hs,
    tds_asg (td_lc hi.td (hg X.s_0 X.H_0 0 [] []).td hw (TDT.noE (ht X.s_0 X.H_0 0 [] []).td) (TD.noE (he X.s_0 X.H_0 0 [] []).td)) (tdg_name i)⟩
/-! calls -/
/-- a def of the module, called: all that a call leans on -/
structure FnD (X : Cx) (K : PySem.W.Frag) (E : XK) (x : Str) (n : Nat) (F : List D → Om → Res D) : Prop where
  k : X.K = K
  run : ∃ (kk : Nat) (f : Addr) (fd : FuncData) (ps : List Str), FnOk X.prog X.w X.K X.mg X.base (L2N.CX X.prog X.w) kk f fd ps (spD K n F) ∧ Room kk X.A ∧ X.mg x = some (.ref f) ∧ PySem.W.keepIn X.K (.ref f) = true ∧ Binds X.K fd ps [] ∧ Passes (L2N.CX X.prog X.w) X E
theorem passN {X : Cx} : Passes (L2N.CX X.prog X.w) X NoE := fun _ _ _ _ _ _ _ h => by
  obtain ⟨_, _, _, _, _, _, _, _, _, _, _, _, z⟩ := h
  exact z.elim
theorem pd_call {n : Nat} {F : List D → Om → Res D} (o : FnD X K E x n F) (ha : PDA X K E (e :: es) tas das) (hn : ∀ ρ Ω ds Ω', das ρ Ω = .ok ds Ω' → ds.length = n) (hg : Gl X x := by rfl) (hdb : (x == ("__debug__" : Str)) = false := by decide)
    (he : starEach (e :: es) X.env = (false, eval e X.env) :: starEach es X.env := by rfl) (hpl : (backTo pos (starEach es X.env)).any (·.1) = false := by rfl) : PD X K E (.Call (.Name x p) (e :: es) [] pos) (tCall (spD K n F) [] E tas) (dCall F das) := by
  obtain ⟨k, kk, f, fd, ps, G, hr, hm, hk, hb, hx⟩ := o
  exact ⟨k, pe_call G hr hg hm hk hb .nil hx ha.pa hdb he hpl, td_call hn ha.td⟩
theorem pd_call0 {F : List D → Om → Res D} (o : FnD X K E x 0 F) (hg : Gl X x := by rfl) (hdb : (x == ("__debug__" : Str)) = false := by decide) : PD X K E (.Call (.Name x p) [] [] pos) (tCall (spD K 0 F) [] E tNil) (dCall F dNil) := by
  obtain ⟨k, kk, f, fd, ps, G, hr, hm, hk, hb, hx⟩ := o
  exact ⟨k, pe_call0 G hr hg hm hk hb .nil hx hdb, td_call dNil_len tda_nil⟩
end
end Fm
/-! Fm, part 9: more built-ins; a def by its body; what a call leans on. -/
namespace Fm
open PySem PySem.Spec L2
open PyProof.Rows hiding St

section
variable {X : Cx} {K : PySem.W.Frag} {E : XK} {a b c e : Expr} {es : List Expr} {ta tb tc te : TE} {da db dc de : DE} {tt tu : TT} {dt du : DT} {tas : TA} {das : DA} {pos p apos : Pos} {x y : Str}
/-! strip -/
def stripL (l m : List Nat) : List Nat := TL.tl (Txt.stripChars ⟨l.toArray⟩ ⟨m.toArray⟩)
theorem stripL_sub (l m : List Nat) : ∃ i j, stripL l m = (l.drop i).take j := by
  unfold stripL Txt.stripChars Txt.stripBy
  split
  · exact ⟨0, l.length, by rw [List.drop_zero, List.take_length] <;> rfl⟩
  · unfold stripped
    rw [TL.tl_strSub]
    exact ⟨_, _, rfl⟩
def fStrip : D → D → Option D
  | .str l, .str m => some (.str (stripL l m))
  | _, _ => none
def dM1 (f : D → D → Option D) (da db : DE) : DE := fun ρ Ω => (da ρ Ω).bind fun x Ω1 => match x with
  | .str l => (db ρ Ω1).bind fun y Ω2 => lift (f (.str l) y) Ω2
  | _ => .bad
theorem td_m1 {r : V → List V → Hp → VK → Prop} {f : D → D → Option D} (hr : ∀ g H l y v w Q, Rp K g H (.str l) v → Rp K g H y w → PstX K g H (Rp K) Q (f (.str l) y) → r v [w] H Q) (ha : TD K E ta da) (hb : TD K E tb db) : TD K E (tM1 r ta tb) (dM1 f da db) := fun g H Ω ρ σ Q S O h =>
  ha g H Ω ρ σ _ S O (Pst.bind h fun x Ω1 g1 H1 v f1 O1 r1 q => by
    cases x with
    | str l =>
      refine ⟨⟨_, r1.str_inv.1⟩, hb g1 H1 Ω1 ρ σ _ (S.fr f1) O1 (Pst.bind q fun y Ω2 g2 H2 w f2 O2 r2 q2 => ?_)⟩
      exact hr g2 H2 l y v w Q (Rp.step f2.toGSt _ _ r1) r2 (Pst.pure O2 q2)
    | _ => exact q.elim)
theorem pd_strip (ha : PD X K E a ta da) (hb : PD X K E b tb db) (hs : starEach [b] X.env = [(false, eval b X.env)] := by rfl) (hbase : attributeBase a "strip" X.env (eval a X.env) = eval a X.env := by rfl) (hline : (apos.endLine == pos.line) = true := by rfl) :
    PD X K E (.Call (.Attribute a "strip" apos) [b] [] pos) (tM1 (fun x xs H Q => ∃ a b, x = .str a ∧ xs = [.str b] ∧ a.length ≤ sizeLine ∧ Q (.str (Txt.stripChars a b)) H) ta tb) (dM1 fStrip da db) :=
  ⟨ha.k, pe_m1 PySem.F.slot_str_strip PySem.F.type_str_strip mt_stripChars ha.pe hb.pe hs hbase hline, td_m1 (fun g H l y v w Q r1 r2 h => by
    cases y with
    | str m =>
      obtain ⟨rfl, z, w1⟩ := r1.str_inv
      obtain ⟨rfl, _, _⟩ := r2.str_inv
      obtain ⟨i, j, e⟩ := stripL_sub l m
      refine ⟨_, _, rfl, rfl, by rw [S_len]; exact Nat.le_trans z lim_le, ?_⟩
      have e2 : Txt.stripChars ⟨l.toArray⟩ ⟨m.toArray⟩ = ⟨(stripL l m).toArray⟩ := (TL.mk_tl _).symm
      rw [e2]
      refine h g H _ Ext.refl (Rp.str ?_ ?_)
      · rw [e]
        have := List.length_take_le j (l.drop i)
        have h2 : (l.drop i).length ≤ l.length := by rw [List.length_drop]; omega
        rw [List.length_take]
        omega
      · rw [e]
        exact List.all_eq_true.mpr fun c hc => List.all_eq_true.mp w1 c (List.mem_of_mem_drop (List.mem_of_mem_take hc))
    | _ => exact h.elim) ha.td hb.td⟩
/-! min of two, int of a truth, all -/
def fMin2 : List D → Option D
  | [.int i, .int j] => some (.int (if j < i then j else i))
  | _ => none
def rMin2 : List V → Hp → VK → Prop := fun xs H Q => ∃ i j, xs = [.int i, .int j] ∧ Q (.int (if j < i then j else i)) H
theorem rd_min2 : RDC K rMin2 fMin2 := fun g H xs vs Q r h => by
  have key : ∃ i j, xs = [.int i, .int j] := by
    revert h
    unfold fMin2
    split
    · exact fun _ => ⟨_, _, rfl⟩
    · exact fun h => h.elim
  obtain ⟨i, j, rfl⟩ := key
  obtain ⟨v, w, rfl, r1, r2⟩ := r.two
  rw [r1.int_inv, r2.int_inv]
  exact ⟨i, j, rfl, h g H _ Ext.refl Rp.int⟩
theorem b_min2 (hc : X.calm = true) (hk : X.K = K := by rfl) : BltD X K (.builtin "min") rMin2 fMin2 := ⟨hk, call_min2 hc, rd_min2⟩
def fIntB : List D → Option D
  | [.bl b] => some (.int (if b then 1 else 0))
  | [.int i] => some (.int i)
  | _ => none
def rIntB : List V → Hp → VK → Prop := fun xs H Q => (∃ i, xs = [.int i] ∧ Q (.int i) H) ∨ ∃ k, xs = [.bl k] ∧ Q (.int (if k then 1 else 0)) H
theorem rd_intB : RDC K rIntB fIntB := fun g H xs vs Q r h => by
  match xs, r, h with
  | [d], r, h =>
    obtain ⟨v, rfl, rv⟩ := r.one
    cases d with
    | bl k => rw [rv.bl_inv]; exact .inr ⟨k, rfl, h g H _ Ext.refl Rp.int⟩
    | int i => rw [rv.int_inv]; exact .inl ⟨i, rfl, h g H _ Ext.refl Rp.int⟩
    | _ => exact h.elim
  | [], _, h => exact h.elim
  | d1 :: _ :: _, _, h => cases d1 <;> exact h.elim
theorem b_intB (hk : X.K = K := by rfl) : BltD X K (.type "int") rIntB fIntB := ⟨hk, call_int1, rd_intB⟩
def bools : List D → Option (List Bool)
  | [] => some []
  | .bl b :: r => (bools r).map (b :: ·)
  | _ => none
theorem bools_rp {g : G} {H : Hp} : ∀ {ds : List D} {vs : List V} {bs : List Bool}, bools ds = some bs → RpL K g H ds vs → vs = bs.map V.bl
  | [], vs, bs, e, r => by
    cases e
    simp only [RpL] at r
    exact r
  | .bl b :: ds, vs, bs, e, r => by
    simp only [RpL] at r
    obtain ⟨v, r', rfl, r1, r2⟩ := r
    unfold bools at e
    obtain ⟨bs', e1, rfl⟩ := Option.map_eq_some_iff.mp e
    rw [bools_rp e1 r2, r1.bl_inv] <;> rfl
def fAll : List D → Option D
  | [.lst ds] => (bools ds).map fun bs => .bl (bs.all id)
  | _ => none
theorem rd_all : RDC K (rAll K) fAll := fun g H xs vs Q r h => by
  have key : ∃ ds, xs = [.lst ds] := by
    revert h
    unfold fAll
    split
    · exact fun _ => ⟨_, rfl⟩
    · exact fun h => h.elim
  obtain ⟨ds, rfl⟩ := key
  obtain ⟨v, rfl, rv⟩ := r.one
  obtain ⟨a, ws, rfl, q, rl, z⟩ := rv.lst_inv
  have h' : PstX K g H (Rp K) Q ((bools ds).map fun bs => .bl (bs.all id)) := h
  cases e : bools ds with
  | none => rw [e] at h'; exact h'.elim
  | some bs =>
    rw [e] at h'
    have ew := bools_rp e rl
    subst ew
    exact ⟨a, bs, rfl, q.seq, h' g H _ Ext.refl Rp.bl⟩
theorem b_all (hc : X.calm = true) (hk : X.K = K := by rfl) : BltD X K (.builtin "all") (rAll K) fAll := by subst hk; exact ⟨rfl, cr_all hc, rd_all⟩
/-! ''.join(list of texts) -/
def strsD : List D → Option (List (List Nat))
  | [] => some []
  | .str l :: r => (strsD r).map (l :: ·)
  | _ => none
theorem strsD_rp {g : G} {H : Hp} : ∀ {ds : List D} {vs : List V} {ls : List (List Nat)}, strsD ds = some ls → RpL K g H ds vs → vs = (ls.map fun l => (⟨l.toArray⟩ : Str)).map V.str ∧ ∀ l ∈ ls, asc l = true
  | [], vs, ls, e, r => by
    cases e
    simp only [RpL] at r
    exact ⟨r, fun l h => absurd h (by simp)⟩
  | .str l :: ds, vs, ls, e, r => by
    simp only [RpL] at r
    obtain ⟨v, r', rfl, r1, r2⟩ := r
    unfold strsD at e
    obtain ⟨ls', e1, rfl⟩ := Option.map_eq_some_iff.mp e
    obtain ⟨k1, k2⟩ := strsD_rp e1 r2
    refine ⟨by rw [k1, r1.str_inv.1] <;> rfl, fun m hm => ?_⟩
    rcases List.mem_cons.mp hm with rfl | hm
    · exact r1.str_inv.2.2
    · exact k2 m hm
def fJoin : D → D → Option D
  | .str [], .lst ds => match strsD ds with
    | some ls => if ls.flatten.length ≤ lim then some (.str ls.flatten) else none
    | none => none
  | _, _ => none
theorem joinL_nil : ∀ ls : List (List Nat), TL.joinL [] ls = ls.flatten
  | [] => rfl
  | [l] => by simp [TL.joinL]
  | l :: m :: r => by
    have := joinL_nil (m :: r)
    simp only [TL.joinL, List.append_nil, List.nil_append, List.flatten_cons] at this ⊢
    rw [this]
theorem pd_join (ha : PD X K E a ta da) (hb : PD X K E b tb db) (hs : starEach [b] X.env = [(false, eval b X.env)] := by rfl) (hbase : attributeBase a "join" X.env (eval a X.env) = eval a X.env := by rfl) (hline : (apos.endLine == pos.line) = true := by rfl) :
    PD X K E (.Call (.Attribute a "join" apos) [b] [] pos) (tM1 (fun x xs H Q => ∃ a p, ∃ ys : List Str, x = .str a ∧ xs = [.ref p] ∧ (SqL K H p (ys.map V.str) ∨ SqT K H p (ys.map V.str)) ∧
      (ys.map (·.length)).sum + ys.length * a.length ≤ 16777216 ∧ Q (.str (Txt.join a ys)) H) ta tb) (dM1 fJoin da db) := by
  obtain ⟨k, pa, qa⟩ := ha
  subst k
  refine ⟨rfl, pe_join pa hb.pe hs hbase hline, td_m1 (fun g H l y v w Q r1 r2 h => ?_) qa hb.td⟩
  have key : ∃ ds ls, l = [] ∧ y = .lst ds ∧ strsD ds = some ls ∧ ls.flatten.length ≤ lim ∧ PstX X.K g H (Rp X.K) Q (some (.str ls.flatten)) := by
    revert h
    unfold fJoin
    split
    · rename_i ds e1
      injection e1 with e1
      split
      · rename_i ls e3
        split
        · rename_i z
          exact fun h => ⟨ds, ls, e1, rfl, e3, z, h⟩
        · exact fun h => h.elim
      · exact fun h => h.elim
    · exact fun h => h.elim
  obtain ⟨ds, ls, rfl, rfl, e, z, h⟩ := key
  obtain ⟨p, ws, rfl, q, rl, _⟩ := r2.lst_inv
  obtain ⟨k1, k2⟩ := strsD_rp e rl
  subst k1
  refine ⟨_, p, _, r1.str_inv.1, rfl, .inl q.seq, ?_, ?_⟩
  · have e1 : ((ls.map fun l => (⟨l.toArray⟩ : Str)).map (·.length)).sum = ls.flatten.length := by
      rw [List.map_map, List.length_flatten] <;> rfl
    rw [e1, S_len]
    have := lim_mid
    simp only [List.length_nil, Nat.mul_zero, Nat.add_zero]
    omega
  · have e2 : Txt.join (⟨([] : List Nat).toArray⟩ : Str) (ls.map fun l => (⟨l.toArray⟩ : Str)) = ⟨ls.flatten.toArray⟩ := TL.ext_tl (by
      rw [TL.join_eq, TL.tl_join, List.map_map]
      have e3 : (TL.tl ∘ fun l : List Nat => (⟨l.toArray⟩ : Str)) = id := by funext l; rfl
      rw [e3, List.map_id]
      exact joinL_nil ls)
    rw [e2]
    refine h g H _ Ext.refl (Rp.str z ?_)
    exact List.all_eq_true.mpr fun c hc => by
      obtain ⟨l, hl, hc⟩ := List.mem_flatten.mp hc
      exact List.all_eq_true.mp (k2 l hl) c hc
/-! a walk over whatever it is -/
def iSeq (K : PySem.W.Frag) (te : TE) : TI := fun σ H R => iTup K te σ H R ∨ iList K te σ H R ∨ iStr te σ H R
theorem pi_or {tg iter : Expr} {w1 w2 : TI} (h1 : PI X tg iter w1) (h2 : PI X tg iter w2) : PI X tg iter (fun σ H R => w1 σ H R ∨ w2 σ H R) := ⟨fun pins s σ H R I h => h.elim (fun h => h1.run pins s σ H R I h) fun h => h2.run pins s σ H R I h⟩
def asSeq (de : DE) : DI := fun ρ Ω => (de ρ Ω).bind fun d Ω1 => match d with
  | .tup ds => .ok ds Ω1
  | .lst ds => .ok ds Ω1
  | .str l => .ok (l.map fun c => .str [c]) Ω1
  | _ => .bad
theorem pi_u {tg : Expr} (h : PD X K E e te de) : PDI X K E tg e (iSeq K te) (asSeq de) := by
  obtain ⟨k, pe, td⟩ := h
  subst k
  refine ⟨rfl, pi_or (pi_tup pe) (pi_or (pi_list pe) (pi_str pe)), fun g H Ω ρ σ R S O h => ?_⟩
  have go : ∀ {di : DI}, di ρ Ω = asSeq de ρ Ω → Pst X.K E g H (WalkD X.K) R (di ρ Ω) := fun {di} e => by rw [e]; exact h
  unfold asSeq at go
  cases q : de ρ Ω with
  | ok d Ω1 =>
    rw [q] at go
    cases d with
    | tup ds => exact .inl (tdi_tup td g H Ω ρ σ R S O (go (by unfold asTup; rw [q] <;> rfl)))
    | lst ds => exact .inr (.inl (tdi_lst td g H Ω ρ σ R S O (go (by unfold asLst; rw [q] <;> rfl))))
    | str l => exact .inr (.inr (tdi_str td g H Ω ρ σ R S O (go (by unfold asStr; rw [q] <;> rfl))))
    | _ => exact (go (di := fun _ _ => .bad) rfl).elim
  | exc n Ω1 =>
    rw [q] at go
    exact .inl (tdi_tup td g H Ω ρ σ R S O (go (by unfold asTup; rw [q] <;> rfl)))
  | bad =>
    rw [q] at go
    exact (go (di := fun _ _ => .bad) rfl).elim
end

/-! ### a def by its body, a call's ground -/
/-- a def of the module that keeps what F says -/
structure Cal (P : Program) (w : World) (K : PySem.W.Frag) (mg : Str → Option Value) (base : Heap) (k : Nat) (x : Str) (n : Nat) (F : List D → Om → Res D) : Prop where
  ex : ∃ (f : Addr) (fd : FuncData) (ps : List Str), FnOk P w K mg base (L2N.CX P w) k f fd ps (spD K n F) ∧ mg x = some (.ref f) ∧ PySem.W.keepIn K (.ref f) = true ∧ Binds K fd ps []
section
variable {X : Cx} {K : PySem.W.Frag} {E : XK} {x : Str} {k n : Nat} {F : List D → Om → Res D}
theorem Cal.fnd (c : Cal X.prog X.w X.K X.mg X.base k x n F) {m : Nat} (hr : Room m X.A) (hp : Passes (L2N.CX X.prog X.w) X E) (hkm : k ≤ m := by decide) (hk : X.K = K := by rfl) : FnD X K E x n F := by
  subst hk
  obtain ⟨f, fd, ps, G, hm, kp, hb⟩ := c.ex
  exact ⟨rfl, k, f, fd, ps, G, hr.mono hkm, hm, kp, hb, hp⟩
theorem Cal.mono {P : Program} {w : World} {mg : Str → Option Value} {base : Heap} (c : Cal P w K mg base k x n F) {m : Nat} (h : k ≤ m) : Cal P w K mg base m x n F := by
  obtain ⟨f, fd, ps, G, hm, kp, hb⟩ := c.ex
  exact ⟨f, fd, ps, G.mono h, hm, kp, hb⟩
/-- a def by its body -/
theorem def_ok {P : Program} {w : World} {mg : Str → Option Value} {base : Heap} {nm qual : Str} {params : Arguments} {body : List Stmt} {scope : Scope} {f : Addr} {fd : FuncData} {N ps : List Str} {db : DS}
    (F : FunD K nm qual params body scope [] [] f fd) (S : FnScope N ps scope) (hn : ps.length = n)
    (hb : ∀ (cdv : Value) (A : Around) (outer : List Env) (s : Shared) (H : Hp) (E : XK), Room k (A.deeper (envOfC qual scope s.heap.objs.size f cdv)) → Passes (L2N.CX P w) (cxOf (L2N.CX P w) P w K mg base N qual scope f cdv A outer s H E) E →
      PassesOwn (model P w) (cxOf (L2N.CX P w) P w K mg base N qual scope f cdv A outer s H E).A (cxOf (L2N.CX P w) P w K mg base N qual scope f cdv A outer s H E).env (cxOf (L2N.CX P w) P w K mg base N qual scope f cdv A outer s H E).xe →
      L2N.Takes (cxOf (L2N.CX P w) P w K mg base N qual scope f cdv A outer s H E) (fun cls d _ H => E cls d H) →
      ∃ ts, PDSs (cxOf (L2N.CX P w) P w K mg base N qual scope f cdv A outer s H E) K E body ts db) : FnOk P w K mg base (L2N.CX P w) (k + 1) f fd ps (spD K n (runF db N.length n)) := by
  refine F.ok S (spD.len hn) fun cdv A outer s H vs Q E hr h => ?_
  have tk : L2N.Takes (cxOf (L2N.CX P w) P w K mg base N qual scope f cdv A outer s H E) (fun cls d _ H => E cls d H) := L2N.takes_of rfl rfl rfl rfl
  obtain ⟨ts, o⟩ := hb cdv A outer s H E hr (L2N.passes_call tk fun _ _ _ _ h => h) (passes_of rfl) tk
  exact ⟨ts, o.ps, spD_body o.td h⟩
end
end Fm
/-! Fm, part 10: sorted(own list, key=lambda mark: mark[:3]). -/
namespace Fm
open PySem PySem.Spec L2
open PyProof.Rows hiding St

section
variable {prog : Program} {w : World} {A : Around} {E : Value → Shared → Prop} {s : Shared}
abbrev cut3 (p2 p3 p4 p5 : Pos) (j : Nat) : Expr := .Subscript (.Name "mark" p2) (.Slice none (some (.Constant (.int 3) j p3)) none p4) p5
/-- mark[:3], raw: the heap only grows -/
theorem raw_cut3 {env : Env} {L t : Addr} {m : Str → Option Value} {its : List Value} {p2 p3 p4 p5 : Pos} {j : Nat} {Q : Value → Shared → Prop} (hk : env.scope.kind = .function) (hl : env.scope.names.lookup ("mark" : Str) = some NameKind.local) (hL : env.locals = L)
    (hn : s.heap.Ns L m) (hm : m "mark" = some (.ref t)) (ht : IsTup s.heap t its.toArray) (hz : its.length ≤ sizeLine)
    (h : ∀ u h' tk, (∀ b o, s.heap.get? b = some o → h'.get? b = some o) → (∃ p, u = .ref p ∧ IsTup h' p (its.take 3).toArray) → Q u { s with heap := h', toks := tk }) :
    wpAny (model prog w) A (eval (cut3 p2 p3 p4 p5 j) env) Q E s := by
  refine Subscript_ (wpAny_Name (wpAny_loadName_local hk hl (by rw [hL]; exact hn) hm ?_) (by decide))
  refine wpAny_Slice ?_
  rw [evalPart_none]
  refine wpAny_pure ?_
  rw [evalPart_some]
  refine wpAny_Constant_int ?_
  refine wpAny_pure ?_
  have kp : ∀ b o, s.heap.get? b = some o → (s.heap.push { cls := .type "slice", data := .fields #[.none, .int 3 s.toks, .none] }).get? b = some o := fun b o q => Heap.get?_push_of_some _ q
  have ht2 : IsTup (s.heap.push { cls := .type "slice", data := .fields #[.none, .int 3 s.toks, .none] }) t its.toArray := ht.keeps kp
  refine tail_any (ops := [.ref s.heap.objs.size, .ref t]) (T := "tuple") ht2.typeIs PyProof.Rows.slot_tuple_getitem.lookup ?_ (by with_unfolding_all rfl)
  have e1 : HT.sIx its.toArray.size 0 none = 0 := rfl
  have e2 : HT.sIx its.toArray.size its.toArray.size (some 3) = min 3 its.length := by
    unfold HT.sIx
    simp only [List.size_toArray]
    split
    · omega
    · omega
  by_cases hw : HT.sIx its.toArray.size 0 none = 0 ∧ HT.sIx its.toArray.size its.toArray.size (some 3) = its.toArray.size
  · refine getItem_tuple_whole (s := { s with heap := s.heap.push { cls := .type "slice", data := .fields #[.none, .int 3 s.toks, .none] }, toks := s.toks + 1 }) ht2 (Heap.IsSliceOf.new ..) .none (.int 3 s.toks) hw ?_
    refine h _ _ _ kp ⟨t, rfl, ?_⟩
    have : its.length ≤ 3 := by
      have := hw.2
      rw [e2, List.size_toArray] at this
      omega
    rw [List.take_of_length_le this]
    exact ht2
  · refine HT.getItem_tuple_cut (s := { s with heap := s.heap.push { cls := .type "slice", data := .fields #[.none, .int 3 s.toks, .none] }, toks := s.toks + 1 }) ht2 (Heap.IsSliceOf.new ..) .none (.int 3 s.toks) hw ?_ (by rw [List.size_toArray]; exact hz)
    refine h _ _ _ (fun b o q => Heap.get?_push_of_some _ (kp b o q)) ⟨_, rfl, ?_⟩
    rw [e1, e2, Nat.sub_zero]
    have e3 : (List.take (min 3 its.length) (List.drop 0 its)) = its.take 3 := by
      rw [List.drop_zero]
      by_cases hh : its.length ≤ 3
      · rw [Nat.min_eq_right hh, List.take_length, List.take_of_length_le hh]
      · rw [Nat.min_eq_left (by omega)]
    rw [show its.toArray.toList = its from rfl, e3]
    exact IsTup.new _ _
/-- a call of the lambda -/
theorem raw_lam {f t c' : Addr} {qual : Str} {params : Arguments} {scope : Scope} {clos : List (Str × Addr)} {pm ctv : Value} {its : List Value} {p2 p3 p4 p5 : Pos} {j : Nat} {Q : Value → Shared → Prop} (hd : A.depth < recursionLimit) (hlim : s.heap.NoLimit)
    (ho : s.heap.get? f = some (PySem.W.kla_obj "<lambda>" qual params (cut3 p2 p3 p4 p5 j) scope clos pm c' ctv)) (hcd : s.heap.CodeRec (.ref c') qual)
    (hsk : scope.kind = .function) (hco : scope.isCoroutine = false) (hgen : scope.isGenerator = false) (hl : scope.names.lookup ("mark" : Str) = some NameKind.local) (hcell : ∀ x ∈ scope.names, x.2 ≠ .cell)
    (hbind : bindArgs (PySem.W.kla_fn "<lambda>" qual params (cut3 p2 p3 p4 p5 j) scope clos pm (.ref c') ctv) ⟨[.ref t], []⟩ = pure [(("mark" : Str), Value.ref t)])
    (ht : IsTup s.heap t its.toArray) (hz : its.length ≤ sizeLine)
    (h : ∀ u h' tk, (∀ b o, s.heap.get? b = some o → h'.get? b = some o) → (∃ p, u = .ref p ∧ IsTup h' p (its.take 3).toArray) → Q u { s with heap := h', toks := tk }) :
    wpAny (model prog w) A (call (.ref f) [.ref t]) Q E s := by
  refine wpAny_call ?_
  refine PySem.W.kla_callFunE hd ho rfl hco hgen rfl hcd ?_
  rw [hbind]
  refine wpAny_pure (wpAny_newFunctionEnv hcell (fun y hy => ?_) (fun h₁ hns hsb => ⟨hlim.fresh _ hsb, ?_⟩) hsk)
  · rw [List.mem_singleton.mp hy]
    exact hl
  · refine PySem.W.kla_codeExpr ?_
    have kp : ∀ b o, s.heap.get? b = some o → h₁.get? b = some o := fun b o e => hsb.extBut b o (Nat.ne_of_lt (Heap.lt_size e)) (Heap.get?_push_of_some _ e)
    refine raw_cut3 (L := s.heap.objs.size) (t := t) (its := its) hsk hl rfl hns rfl (ht.keeps kp) hz fun u h' tk k2 q => ?_
    exact h u h' tk (fun b o e => k2 b o (kp b o e)) q
/-- the key: the first three, whole numbers -/
def key3 (x y z : Int) : PyData := .tuple [.int x, .int y, .int z]
theorem raw_key {f t c' : Addr} {qual : Str} {params : Arguments} {scope : Scope} {clos : List (Str × Addr)} {pm ctv : Value} {x y z : Int} {tx ty tz : Tok} {r : List Value} {p2 p3 p4 p5 : Pos} {j : Nat} (hd : A.depth < recursionLimit) (hlim : s.heap.NoLimit)
    (ho : s.heap.get? f = some (PySem.W.kla_obj "<lambda>" qual params (cut3 p2 p3 p4 p5 j) scope clos pm c' ctv)) (hcd : s.heap.CodeRec (.ref c') qual)
    (hsk : scope.kind = .function) (hco : scope.isCoroutine = false) (hgen : scope.isGenerator = false) (hl : scope.names.lookup ("mark" : Str) = some NameKind.local) (hcell : ∀ x ∈ scope.names, x.2 ≠ .cell)
    (hbind : bindArgs (PySem.W.kla_fn "<lambda>" qual params (cut3 p2 p3 p4 p5 j) scope clos pm (.ref c') ctv) ⟨[.ref t], []⟩ = pure [(("mark" : Str), Value.ref t)])
    (ht : IsTup s.heap t (.int x tx :: .int y ty :: .int z tz :: r).toArray) (hz : (.int x tx :: .int y ty :: .int z tz :: r : List Value).length ≤ sizeLine) :
    wpAny (model prog w) A (call (.ref f) [.ref t]) (PySem.W.KeyPure (key3 x y z) s) E s := by
  refine raw_lam hd hlim ho hcd hsk hco hgen hl hcell hbind ht hz fun u h' tk kp q => ?_
  obtain ⟨p, rfl, o, h1, h2, n, h3⟩ := q
  refine ⟨h', tk, rfl, kp, ?_⟩
  refine Reads.tuple (as := []) h1 h2 h3 ?_
  exact .cons (.int x tx) (.cons (.int y ty) (.cons (.int z tz) .nil))
end
/-! ### the lambda is made -/
section
variable {X : Cx} {pins : List (Addr × Obj)} {σ : L2.St} {H : Hp} {s : Shared}
theorem lam_new {c P : Addr} {q : Str} {ps : Array Value} {params : Arguments} {body : Expr} {scope : Scope} {pos : Pos} {E : Value → Shared → Prop} {Q : Value → Shared → Prop} (I : Inv X pins σ H s) (TB : LamX.TabB X.base X.mg c P) (hcode : X.env.code = .ref c)
    (hq : X.env.qual ++ "<lambda>" = q) (hP : H P = some (.tbl ps)) (ht : TriplesOk ps.toList) (ha : ∀ (pos : Pos) (cv : Value), codeAmong pos ps.toList = some cv → ∃ c, cv = .ref c ∧ H c = some (LamX.CodeO c q))
    (hdef : defaultsOf params X.env = ([], [])) (hfree : ∀ y ∈ scope.names, y.2 = .free → ∃ c, X.env.cells.lookup y.1 = some c)
    (h1 : ∀ (f c' : Addr) (pm ctv : Value) (s' : Shared), Inv X pins σ H s' → s'.heap.get? f = some (PySem.W.kla_obj "<lambda>" q params body scope (cloFrom X.env.cells scope.names []) pm c' ctv) → s'.heap.CodeRec (.ref c') q → Q (.ref f) s')
    (h2 : ∀ (f c' : Addr) (pm ctv : Value) (s' : Shared), H c' = none → Inv X pins σ (L2.upd (L2.upd H P (.tbl (ps ++ #[rawInt pos.line, rawInt pos.col, .ref c']))) c' (LamX.CodeO c' q)) s' →
      s'.heap.get? f = some (PySem.W.kla_obj "<lambda>" q params body scope (cloFrom X.env.cells scope.names []) pm c' ctv) → s'.heap.CodeRec (.ref c') q → Q (.ref f) s') :
    wpAny (model X.prog X.w) X.A (eval (.Lambda params body scope pos) X.env) Q E s := by
  refine PySem.W.kla_eval hdef ?_
  rw [hq]
  have bP : s.heap.BuiltinsAt X.mg P := TB.bm.keeps I.bk
  have hP' : s.heap.get? P = some { cls := .none, data := .fields ps } := I.hok P _ hP
  cases hc : codeAmong pos ps.toList with
  | none =>
    refine PySem.W.kla_makeFunction (mg := X.mg) (c := c) (P := P) (ps := ps) (closure_ok hfree) I.ok.glob (I.mod.glob.keeps I.bk) hcode (TB.code.keeps I.bk) hP' ht hc TB.gP bP fun c' ctv h' tk hx hge hlt hrec htb => ?_
    obtain ⟨c2, oc, vs, t, e2, hoc, hd, hv⟩ := hrec
    cases e2
    refine h2 h'.objs.size c' ((X.mg "__name__").getD .none) ctv _ (I.hok.fresh hge) (LamX.inv_table (t' := tk) (more := #[rawInt pos.line, rawInt pos.col, .ref c']) (h' := h'.push (PySem.W.kla_obj "<lambda>" q params body scope (cloFrom X.env.cells scope.names []) ((X.mg "__name__").getD .none) c' ctv)) I hP
      (fun b o hb e => Heap.get?_push_of_some _ (hx b o hb e)) (Heap.get?_push_of_some _ htb) hge ⟨oc, vs, t, Heap.get?_push_of_some _ hoc, hd, hv⟩) (Heap.get?_push_size _ rfl) ⟨c', oc, vs, t, rfl, Heap.get?_push_of_some _ hoc, hd, hv⟩
  | some cv =>
    obtain ⟨c', e, hco⟩ := ha pos cv hc
    subst e
    refine PySem.W.kla_makeFunctionHit (mg := X.mg) (c := c) (P := P) (ps := ps) (closure_ok hfree) I.ok.glob (I.mod.glob.keeps I.bk) hcode (TB.code.keeps I.bk) hP' ht hc bP fun ctv h' tk hx hsz => ?_
    have I1 : Inv X pins σ H { s with heap := h'.push (PySem.W.kla_obj "<lambda>" q params body scope (cloFrom X.env.cells scope.names []) ((X.mg "__name__").getD .none) c' ctv), toks := tk } := I.kept fun b o e => Heap.get?_push_of_some _ (hx b o e)
    obtain ⟨⟨oc, vs, t, e1, e2, e3⟩, _, _⟩ := I1.hok c' _ hco
    exact h1 h'.objs.size c' ((X.mg "__name__").getD .none) ctv _ I1 (Heap.get?_push_size _ rfl) ⟨c', oc, vs, t, rfl, e1, e2, e3⟩
end
/-! ### sorted by the key -/
abbrev I3 : Type := Int × Int × Int
def leK (p q : V × I3) : Bool := PySem.W.dataLe false (fun b : V × I3 => key3 b.2.1 b.2.2.1 b.2.2.2) p q
def TupK (K : PySem.W.Frag) (H : Hp) (p : V × I3) : Prop := ∃ t xs, p.1 = .ref t ∧ SqT K H t (.int p.2.1 :: .int p.2.2.1 :: .int p.2.2.2 :: xs)
def MkH (K : PySem.W.Frag) (ps : Array Value) (H H1 : Hp) : Prop := H1 = H ∨ ∃ (c' : Addr) (pos : Pos), H c' = none ∧ H1 = L2.upd (L2.upd H (lamTab K) (.tbl (ps ++ #[rawInt pos.line, rawInt pos.col, .ref c']))) c' (LamX.CodeO c' lamName)
def tSortK (K : PySem.W.Frag) (i : Nat) : TE := fun σ H Q => ∃ (a : Addr) (bs : List (V × I3)) (ps : Array Value), σ[i]? = some (some (.ref a)) ∧ SqL K H a (bs.map (·.1)) ∧ bs.length ≤ lim ∧ (∀ p ∈ bs, TupK K H p) ∧
  H (lamTab K) = some (.tbl ps) ∧ TriplesOk ps.toList ∧ (∀ (pos : Pos) (cv : Value), codeAmong pos ps.toList = some cv → ∃ c, cv = .ref c ∧ H c = some (LamX.CodeO c lamName)) ∧
  ∀ H1, MkH K ps H H1 → ∀ p, H1 p = none → Q (.ref p) (L2.upd H1 p (.lst ((bs.mergeSort leK).map (·.1))))
def RawK (h : Heap) (u : Value) (p : V × I3) : Prop := ∃ t tx ty tz r, p.1 = .ref t ∧ u = .ref t ∧ IsTup h t (.int p.2.1 tx :: .int p.2.2.1 ty :: .int p.2.2.2 tz :: r).toArray ∧ (.int p.2.1 tx :: .int p.2.2.1 ty :: .int p.2.2.2 tz :: r : List Value).length ≤ sizeLine
theorem rawK_of {X : Cx} {pins : List (Addr × Obj)} {σ : L2.St} {H : Hp} {s : Shared} (I : Inv X pins σ H s) : ∀ {bs : List (V × I3)} {us : List Value}, (∀ p ∈ bs, TupK X.K H p) → Vals (bs.map (·.1)) us → PySem.W.EachIs (RawK s.heap) us bs
  | [], us, _, r => by
    cases r
    exact .nil
  | p :: bs, us, h, r => by
    rw [List.map_cons] at r
    cases r with
    | @cons _ u _ us' r1 r2 =>
      refine .cons ?_ (rawK_of I (fun q hq => h q (List.mem_cons_of_mem _ hq)) r2)
      obtain ⟨t, xs, e, hT⟩ := h p List.mem_cons_self
      rw [e] at r1
      have eu : u = Value.ref t := r1
      obtain ⟨its, rv, ht, hz⟩ := I.tuple hT
      cases rv with
      | cons ra rv =>
        cases rv with
        | cons rb rv =>
          cases rv with
          | cons rc rv =>
            obtain ⟨ta, rfl⟩ := ra
            obtain ⟨tb, rfl⟩ := rb
            obtain ⟨tc, rfl⟩ := rc
            exact ⟨t, ta, tb, tc, _, e, eu, ht, by
              have hl := rv.length
              simp only [List.length_cons] at hz ⊢
              omega⟩
theorem vals_rawK {h : Heap} : ∀ {us : List Value} {bs : List (V × I3)}, PySem.W.EachIs (RawK h) us bs → Vals (bs.map (·.1)) us
  | _, _, .nil => .nil
  | _, _, .cons r t => by
    obtain ⟨a, _, _, _, _, e1, e2, _⟩ := r
    rw [List.map_cons, e1, e2]
    exact .cons rfl (vals_rawK t)
section
variable {X : Cx} {x : Str} {p p1 kpos lpos pos : Pos}
structure LamK (params : Arguments) (scope : Scope) (env : Env) : Prop where
  kind : scope.kind = .function
  co : scope.isCoroutine = false
  gen : scope.isGenerator = false
  mark : scope.names.lookup ("mark" : Str) = some NameKind.local
  cell : ∀ x ∈ scope.names, x.2 ≠ .cell
  free : ∀ x ∈ scope.names, x.2 ≠ .free
  dfl : defaultsOf params env = ([], [])
  bind : ∀ (body : Expr) (q : Str) (cl : List (Str × Addr)) (pm cv ctv u : Value), bindArgs (PySem.W.kla_fn "<lambda>" q params body scope cl pm cv ctv) ⟨[u], []⟩ = pure [(("mark" : Str), u)]
theorem pe_sortK {i : Nat} {c : Addr} {params : Arguments} {scope : Scope} {p2 p3 p4 p5 : Pos} {j k : Nat} (hg : Gl X "sorted") (hm : X.mg "sorted" = none) (hN : X.N[i]? = some x) (hv : Vis X.env.scope x) (hr : Room k X.A)
    (TB : LamX.TabB X.base X.mg c (lamTab X.K)) (hcode : X.env.code = .ref c) (hq : X.env.qual ++ "<lambda>" = lamName) (L : LamK params scope X.env)
    (hd : (x == ("__debug__" : Str)) = false := by decide) (hcd : (x == ("__classdict__" : Str)) = false := by decide) :
    PE X (.Call (.Name "sorted" p) [.Name x p1] [⟨some "key", .Lambda params (cut3 p2 p3 p4 p5 j) scope lpos, kpos⟩] pos) (tSortK X.K i) := by
  refine ⟨fun pins s σ H Q I h => ?_⟩
  obtain ⟨a, bs, ps, hs, hS, hz, hb, hP, ht, ha, q⟩ := h
  refine wpAny_Call_Name_kw (ld_blt I hg hm (show bootBuiltins "sorted" = some (.builtin "sorted") by rfl) ?_)
  have hvar : PA X [.Name x p1] (tCons (tVar i) tNil) := pa_cons (pe_var hN hv hd hcd) pa_nil
  refine PyProof.Rows.callWith_kw (thn (hvar.run pos pins s σ H (fun vs H' => vs = [.ref a] ∧ H' = H) I ⟨.ref a, hs, rfl, rfl⟩) fun us s1 ⟨vs, H1, I1, r1, e1, e2⟩ => ?_)
  subst e1 e2
  have eu := Vals.ref1 r1
  subst eu
  have fin : ∀ (f c' : Addr) (pm ctv : Value) (s' : Shared) (H2 : Hp), Inv X pins σ H2 s' → MkH X.K ps H1 H2 → SqL X.K H2 a (bs.map (·.1)) → (∀ p ∈ bs, TupK X.K H2 p) →
      s'.heap.get? f = some (PySem.W.kla_obj "<lambda>" lamName params (cut3 p2 p3 p4 p5 j) scope (cloFrom X.env.cells scope.names []) pm c' ctv) → s'.heap.CodeRec (.ref c') lamName →
      wpAny (model X.prog X.w) X.A (call (.builtin "sorted") [.ref a] [(Str.ofString "key", .ref f)]) (EP X pins σ Q) X.xe s' := by
    intro f c' pm ctv s' H2 I2 mk hS2 hb2 ho hcd2
    obtain ⟨its, r, pl, hzz⟩ := I2.list hS2
    have hlen : its.length = bs.length := by rw [← r.length, List.length_map]
    refine PySem.W.sorted_key_data (b := false) (R := RawK s'.heap) (bs := bs) (fun b : V × I3 => key3 b.2.1 b.2.2.1 b.2.2.2) pl.isList (rawK_of I2 hb2 r) (PySem.W.AllAlike.of fun _ _ => by simp [PySem.W.alike, PySem.W.alikeAll, key3]) (PySem.W.Sortable.tuples fun _ => ⟨_, _, rfl⟩)
      (Nat.le_trans hz lim_le) (fun b _ => ?_) (ksk_s1 _ _) (fun _ => ksk_l1 _ _) (fun _ => ksk_t1 _ _) (fun v b hR _ h tk kp => ?_) fun out cc h' tk kp hfr hD hlo eo => ?_
    · have e : (key3 b.2.1 b.2.2.1 b.2.2.2).depth = 1 := by simp [key3, PyData.depth, PyData.depthAll]
      have := hr.un
      omega
    · obtain ⟨t, tx, ty, tz, rr, _, rfl, hT, hzt⟩ := hR
      refine raw_key (s := { s' with heap := h, toks := tk }) (t := t) (hd := ?_) (I2.nolimit.keeps kp) (kp _ _ ho) ?_ L.kind L.co L.gen L.mark L.cell (L.bind _ _ _ _ _ _ _) (hT.keeps kp) hzt
      · have := hr.dp
        show X.A.depth < recursionLimit
        omega
      · obtain ⟨c2, oc, vs, t2, e2, hoc, hd2, hv2⟩ := hcd2
        exact ⟨c2, oc, vs, t2, e2, kp _ _ hoc, hd2, hv2⟩
    · have hv2 := vals_rawK eo
      have hl : ((bs.mergeSort leK).map (·.1)).length ≤ sizeLine := by
        rw [List.length_map, List.length_mergeSort]
        exact Nat.le_trans hz lim_le
      exact ⟨.ref _, _, I2.laid (o := .lst ((bs.mergeSort leK).map (·.1))) (t' := tk) kp (Nat.le_succ _) ⟨hl, out, cc, hv2, hD⟩, rfl, q H2 mk _ (I2.hok.fresh (Nat.le_succ _))⟩
  show wpAny _ _ (evalAll ((do let v ← eval (.Lambda params (cut3 p2 p3 p4 p5 j) scope lpos) X.env; standAt pos; pure v) :: [])) _ _ s1
  refine wpAny_evalAll_cons (wpAny_bind (lam_new I1 TB hcode hq hP ht ha L.dfl (fun y hy e => absurd e (L.free y hy)) (fun f c' pm ctv s' I2 ho hcd2 => ?_) fun f c' pm ctv s' hn I2 ho hcd2 => ?_))
  · refine wpAny_bind (wpAny_standAt (wpAny_pure (wpAny_evalAll_nil ?_)))
    exact fin f c' pm ctv s' H1 I2 (.inl rfl) hS hb ho hcd2
  · refine wpAny_bind (wpAny_standAt (wpAny_pure (wpAny_evalAll_nil ?_)))
    have nP : ∀ b u, H1 b = some u → (∀ q, u ≠ .tbl q) → L2.upd (L2.upd H1 (lamTab X.K) (.tbl (ps ++ #[rawInt lpos.line, rawInt lpos.col, .ref c']))) c' (LamX.CodeO c' lamName) b = some u := fun b u e ne => by
      rw [upd_ne (ne_of_none e hn), upd_ne]
      · exact e
      · rintro rfl
        rw [hP] at e
        exact ne ps (Option.some.inj e).symm
    refine fin f c' pm ctv s' _ I2 (.inr ⟨c', lpos, hn, rfl⟩) ?_ (fun p hp => ?_) ho hcd2
    · rcases hS with (e | ⟨o, e⟩) | e
      · exact .inl (.inl (nP _ _ e fun q z => by cases z))
      · exact .inl (.inr ⟨o, nP _ _ e fun q z => by cases z⟩)
      · exact .inr e
    · obtain ⟨t, xs, e1, e⟩ := hb p hp
      refine ⟨t, xs, e1, ?_⟩
      rcases e with (e | ⟨o, e⟩) | e
      · exact .inl (.inl (nP _ _ e fun q z => by cases z))
      · exact .inl (.inr ⟨o, nP _ _ e fun q z => by cases z⟩)
      · exact .inr e
end
/-! ### the data level -/
section
variable {K : PySem.W.Frag} {E : XK} {g g2 : G} {H H2 : Hp}
theorem FdsR.keep (st : GSt g H g2 H2) (ha : g2.adr = g.adr) (hk : ∀ a o, H a = some o → (∀ ps, o ≠ .tbl ps) → H2 a = some o) {i : Nat} : ∀ {fs : List (Str × Fd)} {vs : List (Str × V)}, FdsR K g H i fs vs → FdsR K g2 H2 i fs vs
  | [], _, h => h
  | (f, d) :: fs, vs, h => by
    obtain ⟨v, r, e1, h1, h2⟩ := h
    refine ⟨v, r, e1, ?_, FdsR.keep st ha hk h2⟩
    cases d with
    | val d => exact Rp.step st d v h1
    | own ds =>
      obtain ⟨e1, o, ws, hh, r, z⟩ := h1
      refine ⟨by rw [ha]; exact e1, ?_, ws, by rw [ha]; exact hk _ _ hh (fun _ z => by cases z), RpL.step st ds ws r, z⟩
      rw [ha, st.own _ (ne_some hh)]
      exact o
theorem mk_step {Ω : Om} {ps : Array Value} (O : Ob K g H Ω) (h0 : Ω[0]? = some .tab) (hP : H (lamTab K) = some (.tbl ps)) (mk : MkH K ps H H2) : ∃ g2, Fr g H g2 H2 ∧ Ob K g2 H2 Ω := by
  rcases mk with rfl | ⟨c', pos, hn, rfl⟩
  · exact ⟨g, Fr.refl, O⟩
  obtain ⟨o0, p0, ps0, hP0, ht0, ha0⟩ := O.at_ 0 _ h0
  rw [p0] at o0 hP0
  rw [hP0] at hP
  cases hP
  have nPc : lamTab K ≠ c' := ne_of_none hP0 hn
  have nc : ∀ b, H b ≠ none → b ≠ c' := fun b h e => h (by rw [e]; exact hn)
  have hk : ∀ b u, H b = some u → b ≠ lamTab K → L2.upd (L2.upd H (lamTab K) (.tbl (ps ++ #[rawInt pos.line, rawInt pos.col, .ref c']))) c' (LamX.CodeO c' lamName) b = some u := fun b u e ne => by
    rw [upd_ne (nc b (ne_some e)), upd_ne ne]
    exact e
  have hkt : ∀ b u, H b = some u → (∀ ps, u ≠ .tbl ps) → b ≠ lamTab K := fun b u e ne z => by
    rw [z, hP0] at e
    exact ne ps (Option.some.inj e).symm
  have atP : L2.upd (L2.upd H (lamTab K) (.tbl (ps ++ #[rawInt pos.line, rawInt pos.col, .ref c']))) c' (LamX.CodeO c' lamName) (lamTab K) = some (.tbl (ps ++ #[rawInt pos.line, rawInt pos.col, .ref c'])) := by
    rw [upd_ne nPc, upd_same]
  have st : GSt g H (g.put c' .lock) (L2.upd (L2.upd H (lamTab K) (.tbl (ps ++ #[rawInt pos.line, rawInt pos.col, .ref c']))) c' (LamX.CodeO c' lamName)) := by
    refine ⟨fun b e => G.put_ne (nc b e), fun _ _ _ => rfl, fun b xs e => hk b _ e (hkt b _ e fun _ z => by cases z), fun b o u e => hk b _ e (hkt b _ e fun _ z => by cases z), fun b e l => ?_, fun b e => ?_⟩
    · have ne : b ≠ lamTab K := fun z => by
        rw [z, o0] at l
        cases l
      rw [upd_ne (nc b e), upd_ne ne]
    · by_cases hb : b = lamTab K
      · rw [hb, atP]
        exact fun z => nomatch z
      · rw [upd_ne (nc b e), upd_ne hb]
        exact e
  refine ⟨g.put c' .lock, ⟨st, fun _ => rfl, fun b o e h1 _ => hk b o e fun z => h1 0 (by rw [z]; exact o0)⟩, fun i o e => ?_, fun a i e => O.lt a i (put_nob (fun _ z => by cases z) a i e)⟩
  obtain ⟨h1, h2⟩ := O.at_ i o e
  refine ⟨?_, ?_⟩
  · show (g.put c' .lock).own (g.adr (.obj i)) = _
    rw [G.put_ne (nc _ h2.there)]
    exact h1
  · cases o with
    | ins c fs =>
      obtain ⟨dx, vs, k1, k2, k3⟩ := h2
      exact ⟨dx, vs, hk _ _ k1 (hkt _ _ k1 fun _ z => by cases z), FdsR.keep st rfl (fun a o e n => hk a o e (hkt a o e n)) k2, k3⟩
    | dk fs =>
      obtain ⟨vs, k1, k2, k3⟩ := h2
      exact ⟨vs, hk _ _ k1 (hkt _ _ k1 fun _ z => by cases z), FdsR.keep st rfl (fun a o e n => hk a o e (hkt a o e n)) k2, k3⟩
    | ls ds =>
      obtain ⟨vs, k1, k2, k3⟩ := h2
      exact ⟨vs, hk _ _ k1 (hkt _ _ k1 fun _ z => by cases z), RpL.step st _ _ k2, k3⟩
    | tp ds =>
      obtain ⟨vs, ob, k1, k0, k2, k3⟩ := h2
      exact ⟨vs, ob, hk _ _ k1 (hkt _ _ k1 fun _ z => by cases z), k0, RpL.step st _ _ k2, k3⟩
    | tab =>
      obtain ⟨k0, qs, k1, k2, k3⟩ := h2
      show TabR K (g.put c' .lock) _ (g.adr (.obj i))
      rw [k0] at k1 ⊢
      rw [hP0] at k1
      cases k1
      have eL : (ps ++ #[rawInt pos.line, rawInt pos.col, .ref c']).toList = ps.toList ++ [rawInt pos.line, rawInt pos.col, .ref c'] := by simp
      refine ⟨rfl, _, atP, by rw [eL]; exact PySem.TriplesOk_snoc _ _ _ _ ht0, fun p' cv hcv => ?_⟩
      rw [eL] at hcv
      rcases LamX.among_app _ ht0 hcv with z | z
      · obtain ⟨c0, e1, e2, e3⟩ := ha0 p' cv z
        refine ⟨c0, e1, hk _ _ e2 (hkt _ _ e2 fun _ => LamX.codeO_ne _), ?_⟩
        rw [G.put_ne (nc _ (ne_some e2))]
        exact e3
      · exact ⟨c', z, upd_same, G.put_same⟩
/-- an item with its key -/
def keyOf3 : D → Option I3
  | .tup (.int x :: .int y :: .int z :: _) => some (x, y, z)
  | _ => none
def keys3 : List D → Option (List (D × I3))
  | [] => some []
  | d :: ds => match keyOf3 d, keys3 ds with
    | some k, some bs => some ((d, k) :: bs)
    | _, _ => none
def leD (p q : D × I3) : Bool := PySem.W.dataLe false (fun b : D × I3 => key3 b.2.1 b.2.2.1 b.2.2.2) p q
def fSortK (ds : List D) : Option (List D) := (keys3 ds).map fun bs => (bs.mergeSort leD).map (·.1)
def dSortK (dq : DI) : DE := fun ρ Ω => (dq ρ Ω).bind fun ds Ω1 => match Ω1[0]?, fSortK ds with
  | some ObjS.tab, some es => .ok (.lst es) Ω1
  | _, _ => .bad
/-- data and values, side by side -/
theorem keys3_rp : ∀ {ds : List D} {vs : List V} {bs : List (D × I3)}, keys3 ds = some bs → RpL K g H ds vs →
    ∃ ts : List (D × V × I3), bs = ts.map (fun t => (t.1, t.2.2)) ∧ vs = ts.map (·.2.1) ∧ ∀ t ∈ ts, Rp K g H t.1 t.2.1 ∧ TupK K H (t.2.1, t.2.2)
  | [], vs, bs, e, r => by
    cases e
    simp only [RpL] at r
    subst r
    exact ⟨[], rfl, rfl, fun t ht => absurd ht (by simp)⟩
  | d :: ds, vs, bs, e, r => by
    simp only [RpL] at r
    obtain ⟨v, r', rfl, r1, r2⟩ := r
    unfold keys3 at e
    cases e1 : keyOf3 d with
    | none => rw [e1] at e; cases e
    | some k =>
      cases e2 : keys3 ds with
      | none => rw [e1, e2] at e; cases e
      | some bs' =>
        rw [e1, e2] at e
        have e' := Option.some.inj e
        subst e'
        obtain ⟨ts, h1, h2, h3⟩ := keys3_rp e2 r2
        refine ⟨(d, v, k) :: ts, by rw [h1] <;> rfl, by rw [h2] <;> rfl, fun t ht => ?_⟩
        rcases List.mem_cons.mp ht with rfl | ht
        · refine ⟨r1, ?_⟩
          have hd : ∃ x y z rest, d = .tup (.int x :: .int y :: .int z :: rest) ∧ k = (x, y, z) := by
            revert e1
            unfold keyOf3
            split
            · rename_i x y z rest
              intro e1
              exact ⟨x, y, z, rest, rfl, (Option.some.inj e1).symm⟩
            · intro e1
              cases e1
          obtain ⟨x, y, z, rest, rfl, rfl⟩ := hd
          obtain ⟨a, ws, rfl, q, rl, _⟩ := r1.tup_inv
          simp only [RpL] at rl
          obtain ⟨v1, w1, rfl, q1, v2, w2, rfl, q2, v3, w3, rfl, q3, _⟩ := rl
          rw [q1.int_inv, q2.int_inv, q3.int_inv] at q
          exact ⟨a, _, rfl, q⟩
        · exact h3 t ht
theorem leK_map (t u : D × V × I3) : leK (t.2.1, t.2.2) (u.2.1, u.2.2) = leD (t.1, t.2.2) (u.1, u.2.2) := rfl
def leT (t u : D × V × I3) : Bool := leD (t.1, t.2.2) (u.1, u.2.2)
theorem RpL.of_map : ∀ {ts : List (D × V × I3)}, (∀ t ∈ ts, Rp K g H t.1 t.2.1) → RpL K g H (ts.map (·.1)) (ts.map (·.2.1))
  | [], _ => RpL.nil
  | t :: ts, h => RpL.cons (h t List.mem_cons_self) (RpL.of_map fun u hu => h u (List.mem_cons_of_mem _ hu))
theorem td_sortK {i : Nat} : TD K E (tSortK K i) (dSortK (dOwn i)) := fun g H Ω ρ σ Q S O h => by
  have key := tdq_own (K := K) (E := E) i g H Ω ρ σ (fun v H1 => ∃ (a : Addr) (bs : List (V × I3)) (ps : Array Value), v = .ref a ∧ SqL K H1 a (bs.map (·.1)) ∧ bs.length ≤ lim ∧ (∀ p ∈ bs, TupK K H1 p) ∧
    H1 (lamTab K) = some (.tbl ps) ∧ TriplesOk ps.toList ∧ (∀ (pos : Pos) (cv : Value), codeAmong pos ps.toList = some cv → ∃ c, cv = .ref c ∧ H1 c = some (LamX.CodeO c lamName)) ∧
    ∀ H2, MkH K ps H1 H2 → ∀ p, H2 p = none → Q (.ref p) (L2.upd H2 p (.lst ((bs.mergeSort leK).map (·.1))))) S O (Pst.bind h fun ds Ω1 g1 H1 v f1 O1 r1 q => ?_)
  · obtain ⟨v, e, a, bs, ps, rfl, k⟩ := key
    exact ⟨a, bs, ps, e, k⟩
  obtain ⟨a, vs, rfl, q1, rl, z⟩ := r1
  have hh : ∃ es, Ω1[0]? = some .tab ∧ fSortK ds = some es ∧ Pst K E g1 H1 (Rp K) Q (.ok (.lst es) Ω1) := by
    cases e1 : Ω1[0]? with
    | none => rw [e1] at q; exact q.elim
    | some o =>
      cases e2 : fSortK ds with
      | none => rw [e1, e2] at q; cases o <;> exact q.elim
      | some es =>
        rw [e1, e2] at q
        cases o with
        | tab => exact ⟨es, rfl, rfl, q⟩
        | ins _ _ => exact q.elim
        | dk _ => exact q.elim
        | ls _ => exact q.elim
        | tp _ => exact q.elim
  obtain ⟨es, h0, e2, q⟩ := hh
  obtain ⟨_, p0, ps, hP, ht, ha⟩ := O1.at_ 0 _ h0
  rw [p0] at hP
  obtain ⟨bs, eb, rfl⟩ := Option.map_eq_some_iff.mp e2
  obtain ⟨ts, rfl, rfl, hts⟩ := keys3_rp eb rl
  have em : (ts.map fun t => (t.2.1, t.2.2)).map (fun x : V × I3 => x.1) = ts.map (·.2.1) := by rw [List.map_map] <;> rfl
  have hlen : ts.length ≤ lim := by
    have := rl.length
    rw [List.length_map] at this
    omega
  have s1 : (ts.map fun t => (t.2.1, t.2.2)).mergeSort leK = (ts.mergeSort leT).map fun t => (t.2.1, t.2.2) := (List.map_mergeSort (r := leT) (s := leK) (f := fun t : D × V × I3 => (t.2.1, t.2.2)) fun _ _ _ _ => rfl).symm
  have s2 : (ts.map fun t => (t.1, t.2.2)).mergeSort leD = (ts.mergeSort leT).map fun t => (t.1, t.2.2) := (List.map_mergeSort (r := leT) (s := leD) (f := fun t : D × V × I3 => (t.1, t.2.2)) fun _ _ _ _ => rfl).symm
  refine ⟨a, ts.map fun t => (t.2.1, t.2.2), ps, rfl, by rw [em]; exact SqL.of q1.1, by rw [List.length_map]; exact hlen, fun p hp => ?_, hP, ht, fun pos cv e => ?_, fun H2 mk p hp => ?_⟩
  · obtain ⟨t, h1, rfl⟩ := List.mem_map.mp hp
    exact (hts t h1).2
  · obtain ⟨c, e1, e3, _⟩ := ha pos cv e
    exact ⟨c, e1, e3⟩
  · obtain ⟨g2, f2, O2⟩ := mk_step O1 h0 hP mk
    rw [s1, List.map_map]
    rw [s2, List.map_map] at q
    have rr : RpL K g2 H2 ((ts.mergeSort leT).map (·.1)) ((ts.mergeSort leT).map (·.2.1)) := RpL.of_map fun t ht => Rp.step f2.toGSt _ _ (hts t (List.mem_mergeSort.mp ht)).1
    exact mkLst (Q := Q) rr (by rw [List.length_map, List.length_mergeSort]; exact hlen) (fun g' H' b e r => q g' H' b (f2.trans e.fr) (O2.ext e) r) p hp
end
section
variable {X : Cx} {K : PySem.W.Frag} {E : XK} {x : Str} {p p1 kpos lpos pos : Pos}
theorem pd_sortKey (i : Nat) {c : Addr} {params : Arguments} {scope : Scope} {p2 p3 p4 p5 : Pos} {j k : Nat} (hm : X.mg "sorted" = none) (hr : Room k X.A) (TB : LamX.TabB X.base X.mg c (lamTab X.K)) (hcode : X.env.code = .ref c) (L : LamK params scope X.env) (hq : X.env.qual ++ "<lambda>" = lamName := by rfl) (hk : X.K = K := by rfl)
    (hg : Gl X "sorted" := by rfl) (hN : X.N[i]? = some x := by rfl) (hv : Vis X.env.scope x := by first | exact Or.inl rfl | exact Or.inr (Or.inl rfl) | exact Or.inr (Or.inr rfl)) (hd : (x == ("__debug__" : Str)) = false := by decide) (hcd : (x == ("__classdict__" : Str)) = false := by decide) :
    PD X K E (.Call (.Name "sorted" p) [.Name x p1] [⟨some "key", .Lambda params (cut3 p2 p3 p4 p5 j) scope lpos, kpos⟩] pos) (tSortK K i) (dSortK (dOwn i)) := by
  subst hk
  exact ⟨rfl, pe_sortK hg hm hN hv hr TB hcode hq L hd hcd, td_sortK⟩
end
end Fm
/-! Fm, part 11: enumerate over whatever is walked; zip. -/
namespace Fm
open PySem PySem.Spec L2
open PyProof.Rows hiding St

/-! ### enumerate(v), one argument -/
theorem meets_en1 {v : Value} {o : Obj} {H : Heap → Prop} (B : Begins v o H) :
    Meets (Builtin.«enumerate.__new__» ⟨[.type "enumerate", v], []⟩) (fun _ R s => H s.heap ∧
      R (.ok (.ret (.ref (s.heap.push o).objs.size))) { s with heap := (s.heap.push o).push { cls := .type "enumerate", data := .fields #[.none, .bool false, .ref s.heap.objs.size, rawInt 0, .none, .none] } }) :=
  .of_wp fun prog w A R s h => by
    obtain ⟨hp, g, d, tk, os⟩ := s; obtain ⟨h1, h⟩ := h
    have hsub := sub_enumerate
    have q1 : ∀ {A' : Around} {E : Value → Shared → Prop} {Q : Value → Shared → Prop}, Q (.ref hp.objs.size) ⟨hp.push o, g, d, tk, os⟩ → wpAny (model prog w) A' (pyIter v) Q E ⟨hp, g, d, tk, os⟩ :=
      fun q => B.iter prog w _ _ ⟨hp, g, d, tk, os⟩ _ h1 q
    wp_walk using q1
    refine wpAny_stack_any fun st => wpAny_pure ?_
    split
    · rename_i c _ _ _ _ _
      cases (c == Value.type "enumerate")
      · wp_walk using q1
        exact ⟨_, rfl, h⟩
      · wp_walk using q1
        exact ⟨_, rfl, h⟩
    · wp_walk using q1
      exact ⟨_, rfl, h⟩
section
variable {prog : Program} {w : World} {A : Around} {E : Value → Shared → Prop} {s : Shared}
theorem call_en1 {v : Value} {o : Obj} {H : Heap → Prop} {Q : Value → Shared → Prop} (B : Begins v o H) (h1 : H s.heap)
    (h : ∀ h', IsEnum h' (s.heap.objs.size + 1) s.heap.objs.size 0 .none → h'.get? s.heap.objs.size = some o → h'.objs.size = s.heap.objs.size + 2 →
      (∀ b o, s.heap.get? b = some o → h'.get? b = some o) → Q (.ref (s.heap.objs.size + 1)) { s with heap := h' }) :
    wpAny (model prog w) A (call (.type "enumerate") [v]) Q E s := by
  refine callType_new F.called_enumerate (by decide) (F.typeCall_enumerate_1 _) (F.newCall_enumerate_1 _) (fun obj => F.args_object_init_2 obj _) F.entry_enumerate_new
    (meets_en1 B) ⟨h1, ?_⟩
  have hz : (s.heap.push o).objs.size = s.heap.objs.size + 1 := Heap.size_push ..
  show _ ∧ _
  rw [hz]
  have he : IsEnum ((s.heap.push o).push { cls := .type "enumerate", data := .fields #[.none, .bool false, .ref s.heap.objs.size, rawInt 0, .none, .none] }) (s.heap.objs.size + 1) s.heap.objs.size 0 .none := by
    have := Heap.get?_push_size (s.heap.push o) (o := { cls := .type "enumerate", data := .fields #[.none, .bool false, .ref s.heap.objs.size, rawInt 0, .none, .none] }) rfl
    rw [hz] at this; exact this
  refine ⟨⟨_, he, rfl⟩, h _ he (Heap.get?_push_of_some _ (Heap.get?_push_size _ B.free)) (by rw [Heap.size_push, hz]) fun b o x => Heap.get?_push_of_some _ (Heap.get?_push_of_some _ x)⟩
end
theorem begins_str (x : Str) (t : Tok) : Begins (.str x t) { cls := .type (strIterType x), data := .fields #[.str x t, .int 0 0] } fun _ => True where
  iter := fun prog w A E s Q _ h => wpAny_pyIter_strU h
  keeps := fun _ _ _ _ => trivial
  free := rfl

/-- the items of xs, each in a new pair with its place, while Gd stands -/
def ItE (Gd : Hp → Prop) (xs : List V) : It :=
  ⟨fun i H => Gd H ∧ i < xs.length, fun i H v H' => ∃ T x, v = .ref T ∧ H T = none ∧ H' = upd H T (.tup [.int (i : Nat), x]) ∧ xs[i]? = some x, fun i H => Gd H ∧ i = xs.length⟩
/-- a source of items: its own iterator at it -/
structure EnSrc (P : Program) (w : World) (K : PySem.W.Frag) (it : Addr) (xs : List V) (Gd : Hp → Prop) (St0 : Nat → Heap → Prop) : Prop where
  obj : ∀ i h, St0 i h → ∃ o, h.get? it = some o ∧ ∀ v, o.data ≠ .cell v
  keep : ∀ i h h', St0 i h → (∀ o, h.get? it = some o → h'.get? it = some o) → St0 i h'
  src : ∀ (X : Cx) (pins : List (Addr × Obj)) (σ : L2.St) (H : Hp) (s : Shared) (i : Nat), X.prog = P → X.w = w → X.K = K → X.calm = true → Inv X pins σ H s → Gd H → St0 i s.heap →
    ∃ (fp : List Addr) (Pv : Nat → Value → Prop) (St : Nat → Heap → Prop), Draws X.prog X.w X.A.in1 it fp xs.length Pv St ∧ St i s.heap ∧ (∀ b ∈ fp, b = it ∨ ∃ o, s.heap.get? b = some o ∧ o.cls ≠ .type "enumerate") ∧
      (∀ j v, Pv j v → ∃ x, xs[j]? = some x ∧ RelV x v) ∧ ∀ j h, St j h → St0 j h
theorem turn_enD {P : Program} {w : World} {K : PySem.W.Frag} {elts : List Expr} {kk : Nat} {tpos : Pos} {e it : Addr} {xs : List V} {Gd : Hp → Prop} {St0 : Nat → Heap → Prop} (S : EnSrc P w K it xs Gd St0) :
    Turn P w K (.Tuple elts kk tpos) (ItE Gd xs) [e, it] e (fun i h => (∃ old, IsEnum h e it ((i : Nat) : Int) old) ∧ St0 i h ∧ e ≠ it) where
  mem := by simp
  obj := fun i h st b hb => by
    obtain ⟨⟨old, he⟩, hs, _⟩ := st
    have e' : b = e ∨ b = it := by simpa using hb
    rcases e' with z | z
    · rw [z]; exact ⟨_, he, fun v q => by cases q⟩
    · rw [z]; exact S.obj i h hs
  keep := fun i h h' st k => let ⟨⟨old, he⟩, hs, hne⟩ := st; ⟨⟨old, k e (by simp) _ he⟩, S.keep i h h' hs fun o q => k it (by simp) o q, hne⟩
  item := by
    intro X hP hw hK hc i pins s σ H E I hf st hg
    obtain ⟨⟨old, he⟩, hs, hne⟩ := st
    obtain ⟨gd, hlt⟩ := hg
    obtain ⟨fp, Pv, St, D, st, hfp, hv, hS0⟩ := S.src X pins σ H s i hP hw hK hc I gd hs
    subst hP hw hK
    have hel : e < s.heap.objs.size := Heap.lt_size he
    have hil : it < s.heap.objs.size := by obtain ⟨_, y⟩ := D.live _ _ st; exact Heap.lt_size y
    have hef : e ∉ fp := fun z => by
      rcases hfp e z with q | ⟨o, q1, q2⟩
      · exact hne q
      · rw [show s.heap.get? e = some _ from he] at q1
        rw [← Option.some.inj q1] at q2
        exact q2 rfl
    refine wpAny_pyNext_enum_itemC D he st hlt hne hef fun u h' tk hP ho hs' hT hsz hk => ?_
    obtain ⟨x, hx, ru⟩ := hv _ _ hP
    refine ⟨_, rfl, wpAny_letOwnedTupleGo_enum (s := { s with heap := h', toks := tk + 1 }) ho fun h'' he' sb => ?_⟩
    have hT2 : h''.get? s.heap.objs.size = some { cls := .type "tuple", data := .seq #[.int i tk, u] } := (sb.2 _ (Nat.ne_of_gt hel)).trans hT
    have new : ObjOk X.prog X.w (upd H s.heap.objs.size (.tup [.int (i : Nat), x])) h'' s.heap.objs.size (.tup [.int (i : Nat), x]) :=
      ⟨by show 2 ≤ sizeLine; decide, [.int i tk, u], .cons ⟨_, rfl⟩ (.cons ru .nil), ⟨_, hT2, rfl, _, rfl⟩⟩
    have I1 : Inv X pins σ (upd H s.heap.objs.size (.tup [.int (i : Nat), x])) { s with heap := h'', toks := tk + 1 } :=
      I.turnedNew (ch := [e, it]) (fun b ob hb q => (sb.2 b (fun z => hb (by simp [z]))).trans (hk b ob (fun z => hb (by simp [z])) (fun z => hb (by simp [z])) q)) hf (Nat.le_refl _) new
    refine ⟨.ref s.heap.objs.size, _, I1, rfl, ⟨_, x, rfl, I.hok.fresh (Nat.le_refl _), rfl, hx⟩, ⟨⟨u, ?_⟩, S.keep _ _ _ (hS0 _ _ hs') fun o q => (sb.2 it (Ne.symm hne)).trans q, hne⟩, fun b hb => ?_⟩
    · have e1 : ((i + 1 : Nat) : Int) = (i : Int) + 1 := by omega
      rw [e1]; exact he'
    · have hb' : b < s.heap.objs.size := by
        have e' : b = e ∨ b = it := by simpa using hb
        rcases e' with z | z
        · rw [z]; exact hel
        · rw [z]; exact hil
      rw [upd_ne (Nat.ne_of_lt hb')]
      exact (hf b hb).1
  done := by
    intro X hP hw hK hc i pins s σ H E I hf st hg
    obtain ⟨⟨old, he⟩, hs, hne⟩ := st
    obtain ⟨gd, hle⟩ := hg
    obtain ⟨fp, Pv, St, D, st, hfp, hv, hS0⟩ := S.src X pins σ H s i hP hw hK hc I gd hs
    subst hP hw hK
    rw [hle] at st
    exact wpAny_pyNext_enum_endD D he st fun h' eb => ⟨rfl, I.turnedL (t' := s.toks) (ch := [e, it]) (fun c o hb q => eb c o (fun q' => hb (by simp [q'])) q) hf⟩
  self := fun A i s Q E st h => let ⟨⟨_, he⟩, _⟩ := st; wpAny_pyIter_enum he h
theorem walk_enD {xs : List V} {Gd : Hp → Prop} : Walk (ItE Gd xs) xs.length Gd (YPair (fun i => some (.int (i : Nat))) (fun i => xs[i]?)) := by
  refine ⟨fun i _ hi q => ⟨q, hi⟩, fun _ q => ⟨q, rfl⟩, fun i H v H' _ q y => ?_⟩
  obtain ⟨T, x, h1, h2, h3, h4⟩ := y
  exact ⟨T, .int (i : Nat), x, h1, h2, h3, rfl, h4⟩
section
variable {P : Program} {w : World} {K : PySem.W.Frag} {it a : Addr} {xs : List V}
theorem src_list (hne : a ≠ it) : EnSrc P w K it xs (fun H => SqL K H a xs) (fun i h => h.IsListIter it a i) where
  obj := fun i h ⟨o, ho, _, hd⟩ => ⟨o, ho, fun v q => by rw [hd] at q; cases q⟩
  keep := fun i h h' st k => st.at fun o q => k o q
  src := fun X pins σ H s i hP hw hK hc I gd st => by
    subst hK
    obtain ⟨its, rv, p, hz⟩ := I.list gd
    refine ⟨[it, a], fun i v => its.toArray[i]? = some v, fun i h => h.IsListIter it a i ∧ h.IsList a its.toArray, ?_, ⟨st, p.isList⟩, fun b hb => ?_, fun j v e => ?_, fun j h q => q.1⟩
    · have e : its.toArray.size = xs.length := by rw [List.size_toArray]; exact rv.length.symm
      rw [← e]
      exact Draws.list (show X.A.in1.handled = none from I.ok.hd hc) it a hne its.toArray
    · rcases List.mem_cons.mp hb with q | q
      · exact .inl q
      · rw [List.mem_singleton.mp q]
        obtain ⟨o, ho, hcl, _⟩ := p.isList
        exact .inr ⟨o, ho, by rw [hcl]; decide⟩
    · have e' : its[j]? = some v := by simpa using e
      have hj : j < xs.length := by
        have := (List.getElem?_eq_some_iff.mp e').1
        rw [rv.length]
        exact this
      obtain ⟨u, e2, r⟩ := rv.get (List.getElem?_eq_getElem hj)
      rw [e'] at e2
      cases e2
      exact ⟨_, List.getElem?_eq_getElem hj, r⟩
theorem src_tup (hne : a ≠ it) : EnSrc P w K it xs (fun H => SqT K H a xs) (fun i h => h.IsTupleIter it a i) where
  obj := fun i h ⟨o, ho, _, hd⟩ => ⟨o, ho, fun v q => by rw [hd] at q; cases q⟩
  keep := fun i h h' st k => st.at fun o q => k o q
  src := fun X pins σ H s i hP hw hK hc I gd st => by
    subst hK
    obtain ⟨its, rv, p, hz⟩ := I.tuple gd
    refine ⟨[it, a], fun i v => its.toArray[i]? = some v, fun i h => h.IsTupleIter it a i ∧ h.IsTuple a its.toArray, ?_, ⟨st, p⟩, fun b hb => ?_, fun j v e => ?_, fun j h q => q.1⟩
    · have e : its.toArray.size = xs.length := by rw [List.size_toArray]; exact rv.length.symm
      rw [← e]
      exact Draws.tuple (show X.A.in1.handled = none from I.ok.hd hc) it a hne its.toArray
    · rcases List.mem_cons.mp hb with q | q
      · exact .inl q
      · rw [List.mem_singleton.mp q]
        obtain ⟨o, ho, hcl, _⟩ := p
        exact .inr ⟨o, ho, by rw [hcl]; decide⟩
    · have e' : its[j]? = some v := by simpa using e
      have hj : j < xs.length := by
        have := (List.getElem?_eq_some_iff.mp e').1
        rw [rv.length]
        exact this
      obtain ⟨u, e2, r⟩ := rv.get (List.getElem?_eq_getElem hj)
      rw [e'] at e2
      cases e2
      exact ⟨_, List.getElem?_eq_getElem hj, r⟩
theorem src_str {z : Str} {t : Tok} : EnSrc P w K it (z.cps.toList.map fun c => V.str ⟨#[c]⟩) (fun _ => True) (fun i h => h.IsStrIter it (strIterType z) z t i) where
  obj := fun i h ⟨o, ho, _, hd⟩ => ⟨o, ho, fun v q => by rw [hd] at q; cases q⟩
  keep := fun i h h' st k => let ⟨o, ho, r⟩ := st; ⟨o, k o ho, r⟩
  src := fun X pins σ H s i hP hw hK hc I gd st => by
    refine ⟨[it], fun i v => ∃ c u, z.cps[i]? = some c ∧ v = .str ⟨#[c]⟩ u, fun i h => h.IsStrIter it (strIterType z) z t i, ?_, st, fun b hb => .inl (List.mem_singleton.mp hb), fun j v e => ?_, fun j h q => q⟩
    · have e : z.cps.size = (z.cps.toList.map fun c => V.str ⟨#[c]⟩).length := by rw [List.length_map, Array.length_toList]
      rw [← e]
      exact Draws.text (show X.A.in1.handled = none from I.ok.hd hc) it z t
    · obtain ⟨c, u, e1, rfl⟩ := e
      exact ⟨.str ⟨#[c]⟩, by rw [List.getElem?_map, Array.getElem?_toList, e1] <;> rfl, ⟨u, rfl⟩⟩
end
/-- enumerate over a list, a tuple, a text -/
def iEn (K : PySem.W.Frag) (ta : TA) : TI := fun σ H R => ta σ H fun vs H1 => ∃ v, vs = [v] ∧ ((∃ a xs, v = .ref a ∧ SqL K H1 a xs ∧ R (ItE (fun H => SqL K H a xs) xs) H1) ∨ (∃ a xs, v = .ref a ∧ SqT K H1 a xs ∧ R (ItE (fun H => SqT K H a xs) xs) H1) ∨
  ∃ z : Str, v = .str z ∧ R (ItE (fun _ => True) (z.cps.toList.map fun c => V.str ⟨#[c]⟩)) H1)
theorem pi_enA {X : Cx} {e : Expr} {ta : TA} {p pos tpos : Pos} {elts : List Expr} {kk : Nat} (hg : Gl X "enumerate") (hm : X.mg "enumerate" = none) (ha : PA X [e] ta) (hs : starEach [e] X.env = [(false, eval e X.env)] := by rfl) :
    PI X (.Tuple elts kk tpos) (.Call (.Name "enumerate" p) [e] [] pos) (iEn X.K ta) := by
  refine ⟨fun pins s σ H R I h => ?_⟩
  refine Call_ (ld_blt I hg hm boot_enumerate (PyProof.Rows.callWith_type1 (thn (ha.run pos pins s σ H _ I h) fun us s1 ⟨vs, H1, I1, r1, q1⟩ => ?_) hs rfl))
  obtain ⟨v, rfl, q1⟩ := q1
  obtain ⟨u, rfl, ru⟩ := vals1 r1
  have fp2 : ∀ b, b ∈ [s1.heap.objs.size + 1, s1.heap.objs.size] → FpOk X pins H1 b := fun b hb => by
    have e' : b = s1.heap.objs.size + 1 ∨ b = s1.heap.objs.size := by simpa using hb
    have hle : s1.heap.objs.size ≤ b := by
      rcases e' with z | z
      · rw [z]; exact Nat.le_add_right _ _
      · rw [z]; exact Nat.le_refl _
    exact I1.fpOk hle (I1.hok.fresh hle)
  rcases q1 with ⟨a, xs, rfl, hq, q⟩ | ⟨a, xs, rfl, hq, q⟩ | ⟨z, rfl, q⟩
  · cases ru
    obtain ⟨its, rv, p', hz⟩ := I1.list hq
    obtain ⟨o, ho, _⟩ := id p'.isList
    refine call_en1 (begins_list a its.toArray) p'.isList fun h' he hit hsz hk => wpAny_pyIter_enum he ?_
    exact ⟨s1.heap.objs.size + 1, [s1.heap.objs.size + 1, s1.heap.objs.size], _, _, H1, rfl, I1.kept (t' := s1.toks) hk, turn_enD (src_list (Nat.ne_of_lt (Heap.lt_size ho))), ⟨⟨.none, he⟩, ⟨_, hit, rfl, rfl⟩, Nat.succ_ne_self _⟩, fp2, q⟩
  · cases ru
    obtain ⟨its, rv, p', hz⟩ := I1.tuple hq
    obtain ⟨o, ho, _⟩ := id p'
    refine call_en1 (begins_tuple a its.toArray) p' fun h' he hit hsz hk => wpAny_pyIter_enum he ?_
    exact ⟨s1.heap.objs.size + 1, [s1.heap.objs.size + 1, s1.heap.objs.size], _, _, H1, rfl, I1.kept (t' := s1.toks) hk, turn_enD (src_tup (Nat.ne_of_lt (Heap.lt_size ho))), ⟨⟨.none, he⟩, ⟨_, hit, rfl, rfl⟩, Nat.succ_ne_self _⟩, fp2, q⟩
  · obtain ⟨t, rfl⟩ := ru
    refine call_en1 (begins_str z t) trivial fun h' he hit hsz hk => wpAny_pyIter_enum he ?_
    exact ⟨s1.heap.objs.size + 1, [s1.heap.objs.size + 1, s1.heap.objs.size], _, _, H1, rfl, I1.kept (t' := s1.toks) hk, turn_enD (src_str (z := z) (t := t)), ⟨⟨.none, he⟩, ⟨_, hit, rfl, rfl⟩, Nat.succ_ne_self _⟩, fp2, q⟩
/-! the data -/
def seqD : D → Option (List D)
  | .tup ds => some ds
  | .lst ds => some ds
  | .str l => some (l.map fun c => .str [c])
  | _ => none
def asEn (da : DA) : DI := fun ρ Ω => (da ρ Ω).bind fun d Ω1 => match d with
  | [x] => lift ((seqD x).map enumL) Ω1
  | _ => .bad
section
variable {K : PySem.W.Frag} {E : XK} {g : G} {H : Hp}
theorem RpL.chars {l : List Nat} (h : asc l = true) : RpL K g H (l.map fun c => .str [c]) (l.map fun c => V.str ⟨#[c]⟩) := by
  induction l with
  | nil => exact RpL.nil
  | cons c l ih =>
    have h2 : (decide (c < 128) && asc l) = true := h
    obtain ⟨h3, h4⟩ := Bool.and_eq_true_iff.mp h2
    refine RpL.cons (Rp.str (l := [c]) (by show 1 ≤ lim; decide) ?_) (ih h4)
    show (decide (c < 128) && true) = true
    rw [h3] <;> rfl
theorem enum_walk {ds : List D} {xs : List V} {Gd : Hp → Prop} {R : It → Hp → Prop} (r : RpL K g H ds xs) (gd : Gd H) (hk : ∀ g2 H2, GSt g H g2 H2 → Gd H2) (h : PstX K g H (WalkD K) R (some (enumL ds))) : R (ItE Gd xs) H := by
  refine h g H _ Ext.refl ⟨Gd, YPair (fun i => some (.int (i : Nat))) (fun i => xs[i]?), ?_, hk, fun i d g2 H2 x H3 f e y => ?_⟩
  · have w := walk_enD (xs := xs) (Gd := Gd)
    rw [show (enumL ds).length = xs.length by rw [r.length]; simp [enumL]]
    exact w
  · obtain ⟨T, x1, y1, rfl, hT, rfl, hx, hy⟩ := y
    obtain ⟨d1, e1, rfl⟩ := enumL_get e
    cases hx
    obtain ⟨w, e3, e4⟩ := r.get e1
    have hy' : xs[i]? = some y1 := hy
    rw [hy'] at e3
    cases e3
    exact mk2 Rp.int (Rp.step f _ _ e4) hT
theorem tdi_en {ta : TA} {da : DA} (h1 : TDA K E ta da) : TDI K E (iEn K ta) (asEn da) := fun g H Ω ρ σ R S O h =>
  h1 g H Ω ρ σ _ S O (Pst.bind h fun x Ω1 g1 H1 v f1 o1 r1 h' => by
    match x, r1, h' with
    | [x], r1, h' =>
      obtain ⟨v, rfl, rv⟩ := r1.one
      have h2 := Pst.pure o1 h'
      refine ⟨v, rfl, ?_⟩
      cases x with
      | lst ds =>
        obtain ⟨a, vs, rfl, q, r, z⟩ := rv.lst_inv
        exact .inl ⟨a, vs, rfl, q.seq, enum_walk r q.seq (fun g2 H2 f => (LkL.step f q).seq) h2⟩
      | tup ds =>
        obtain ⟨a, vs, rfl, q, r, z⟩ := rv.tup_inv
        exact .inr (.inl ⟨a, vs, rfl, q, enum_walk r q (fun g2 H2 f => SqT.step f q) h2⟩)
      | str l =>
        obtain ⟨rfl, z, w⟩ := rv.str_inv
        exact .inr (.inr ⟨_, rfl, enum_walk (RpL.chars w) trivial (fun _ _ _ => trivial) h2⟩)
      | _ => exact h2.elim
    | [], _, h' => exact h'.elim
    | _ :: _ :: _, _, h' => exact h'.elim)
end
section
variable {X : Cx} {K : PySem.W.Frag} {E : XK} {a : Expr} {tas : TA} {das : DA} {p pos tpos : Pos} {elts : List Expr} {kk : Nat}
theorem pi_en (hm : X.mg "enumerate" = none) (ha : PDA X K E [a] tas das) (hs : starEach [a] X.env = [(false, eval a X.env)] := by rfl) (hg : Gl X "enumerate" := by rfl) :
    PDI X K E (.Tuple elts kk tpos) (.Call (.Name "enumerate" p) [a] [] pos) (iEn K tas) (asEn das) := by
  obtain ⟨k, pa, qa⟩ := ha
  subst k
  exact ⟨rfl, pi_enA hg hm pa hs, tdi_en qa⟩
end
end Fm
/-! Fm, part 12: sorted of plain data (list, tuple), text times number, isinstance, zip, turned round. -/
namespace Fm
open PySem PySem.Spec L2
open PyProof.Rows hiding St

section
variable {prog : Program} {w : World} {A : Around} {E : Value → Shared → Prop} {s : Shared} {β : Type} {vs : List Value} {bs : List β} {enc : β → PyData} {R : Value → β → Prop}
/-- sorted(v), v whatever collect takes -/
theorem sorted_any {v : Value} {Q : Value → Shared → Prop} (col : ∀ (E' : Value → Shared → Prop) (Q' : List Value → Shared → Prop), (∀ h' tk, (∀ b o, s.heap.get? b = some o → h'.get? b = some o) → Q' vs { s with heap := h', toks := tk }) → wpAny (model prog w) A.in1 (collect v) Q' E' s)
    (e : PySem.W.EachIs R vs bs) (er : PySem.W.EachIs (fun v b => ∃ as, Reads s.heap v (enc b) as) vs bs) (hal : PySem.W.AllAlike (bs.map enc)) (hk : PySem.W.Sortable (bs.map enc)) (hL : bs.length ≤ sizeLine) (hu : ∀ b, b ∈ bs → A.units + 2 + (enc b).depth < cLine)
    (h : ∀ (h1 h' : Heap) (tk : Nat) (c : Nat) (out : List Value), (∀ b o, s.heap.get? b = some o → h1.get? b = some o) → (∀ b o, h1.get? b = some o → h'.get? b = some o) → h'.get? h1.objs.size = some (seqObj "list" (List.toArray out) c) → out.length = bs.length →
      PySem.W.EachIs R out (bs.mergeSort (PySem.W.dataLe false enc)) → Q (.ref h1.objs.size) { s with heap := h', toks := tk }) :
    wpAny (model prog w) A (call (.builtin "sorted") [v]) Q E s := by
  have hlen : vs.length ≤ sizeLine := by rw [e.length]; exact hL
  refine Calls.call_function_entry kind_sorted plain_sorted entry_sorted (args_sorted1 _) ?_
  unfold Builtin.«sorted»
  refine wpAny_bind (m := checkCount "sorted" 1 1 _) (wpAny_pure ?_)
  refine wpAny_bind (col _ _ fun h' tk kp => ?_)
  refine wpAny_bind (wpAny_newList ?_ hlen)
  have hoL : (h'.push (seqObj "list" vs.toArray 0)).get? h'.objs.size = some (seqObj "list" vs.toArray 0) := Heap.get?_push_size _ rfl
  have up : ∀ b o, s.heap.get? b = some o → b ≠ h'.objs.size ∧ (h'.push (seqObj "list" vs.toArray 0)).get? b = some o := fun b o q => ⟨Nat.ne_of_lt (Heap.lt_size (kp b o q)), Heap.get?_push_of_some _ (kp b o q)⟩
  have er' : PySem.W.EachIs (fun v b => ∃ as, Reads (PySem.W.sortingHeap (h'.push (seqObj "list" vs.toArray 0)) h'.objs.size vs) v (enc b) as) vs bs :=
    er.mono fun _ _ ⟨as, r⟩ => ⟨as, PyProof.Rows.Reads.keeps (fun b o q => PySem.W.sortingHeap_old (up b o q).1 (up b o q).2) r⟩
  refine wpAny_bind (wpAny_holding (wpAny_call_entry slot_list_sort ⟨_, hoL, rfl⟩ entry_list_sort (PySem.W.list_sort_vals (s := { s with heap := h'.push (seqObj "list" vs.toArray 0), toks := tk }) (κ := PySem.W.dataKind (PySem.W.sortingHeap (h'.push (seqObj "list" vs.toArray 0)) h'.objs.size vs) (bs.map enc)) hoL
    (PySem.W.SortsAt.data (s := { s with heap := PySem.W.sortingHeap (h'.push (seqObj "list" vs.toArray 0)) h'.objs.size vs, toks := tk }) (PySem.W.each_map (R := fun v d => ∃ as, Reads (PySem.W.sortingHeap (h'.push (seqObj "list" vs.toArray 0)) h'.objs.size vs) v d as) enc er') hal hk (PySem.W.bound_map hu)) hlen ⟨.none, rfl, ?_⟩) (args_list_sort _)))
  have e1 : ∃ e1, (PySem.W.sortingHeap (h'.push (seqObj "list" vs.toArray 0)) h'.objs.size vs).get? h'.objs.size = some (seqObj "list" #[] e1) := by
    refine ⟨_, Heap.get?_push_of_some _ (Heap.get?_push_of_some _ (get?_update_seq hoL (fun _ => #[])))⟩
  obtain ⟨e1, he1⟩ := e1
  refine wpAny_pure ⟨_, rfl, h h' _ _ _ _ kp (fun b o q => ?_) (get?_update_seq he1 fun _ => (PySem.W.sortVals _ false vs vs).toArray) (by rw [PySem.W.sortVals_length false rfl]; exact e.length) (PySem.W.sortVals_data false e er' hal)⟩
  exact (Heap.get?_update_ne _ _ _ _ (Nat.ne_of_lt (Heap.lt_size q))).trans (PySem.W.sortingHeap_old (Nat.ne_of_lt (Heap.lt_size q)) (Heap.get?_push_of_some _ q))
end
/-! ### sorted: plain data in a list or a tuple -/
abbrev VP : Type := V × PyData
def leV (p q : VP) : Bool := PySem.W.dataLe false (fun b : VP => b.2) p q
def rSortedD (K : PySem.W.Frag) : List V → Hp → VK → Prop := fun xs H Q => ∃ (a : Addr) (bs : List VP), xs = [.ref a] ∧ (SqL K H a (bs.map (·.1)) ∨ SqT K H a (bs.map (·.1))) ∧ (∀ p ∈ bs, Dp K H p.1 p.2 ∧ p.2.depth ≤ 8) ∧
  PySem.W.AllAlike (bs.map (·.2)) ∧ PySem.W.Sortable (bs.map (·.2)) ∧ bs.length ≤ lim ∧ ∀ p, H p = none → Q (.ref p) (L2.upd H p (.lst ((bs.mergeSort leV).map (·.1))))
def RawD (h : Heap) (u : Value) (p : VP) : Prop := L2.RelV p.1 u ∧ ∃ as, Reads h u p.2 as
theorem rawD_of {X : Cx} {pins : List (Addr × Obj)} {σ : L2.St} {H : Hp} {s : Shared} (I : Inv X pins σ H s) : ∀ {bs : List VP} {us : List Value}, (∀ p ∈ bs, Dp X.K H p.1 p.2 ∧ p.2.depth ≤ 8) → Vals (bs.map (·.1)) us → PySem.W.EachIs (RawD s.heap) us bs
  | [], us, _, r => by
    cases r
    exact .nil
  | p :: bs, us, h, r => by
    rw [List.map_cons] at r
    cases r with
    | cons r1 r2 => exact .cons ⟨r1, Dp.reads I _ _ _ (h p List.mem_cons_self).1 r1⟩ (rawD_of I (fun q hq => h q (List.mem_cons_of_mem _ hq)) r2)
theorem vals_rawD {h : Heap} : ∀ {us : List Value} {bs : List VP}, PySem.W.EachIs (RawD h) us bs → Vals (bs.map (·.1)) us
  | _, _, .nil => .nil
  | _, _, .cons r t => .cons r.1 (vals_rawD t)
theorem cr_sortedD {X : Cx} (hu : X.A.units + 65 < cLine) : CallR X (.builtin "sorted") (rSortedD X.K) := by
  intro pins s σ H xs us Q I r h
  obtain ⟨a, bs, rfl, hS, hb, hal, hk, hz, q⟩ := h
  rw [Vals.ref1 r]
  have fin : ∀ (its : List Value) (T : String) (o : Obj) (n : Nat), (T = "list" ∨ T = "tuple") → s.heap.get? a = some o → o.cls = .type T → o.data = .seq its.toArray n → Vals (bs.map (·.1)) its →
      wpAny (model X.prog X.w) X.A (call (.builtin "sorted") [.ref a]) (EP X pins σ Q) X.xe s := by
    intro its T o n hT ho hc hd rv
    have hlen : its.length = bs.length := by rw [← rv.length, List.length_map]
    have e := rawD_of I hb rv
    refine sorted_any (R := RawD s.heap) (bs := bs) (vs := its) (enc := fun b : VP => b.2) (fun E' Q' h => ?_) e (e.mono fun _ _ x => x.2) hal hk (Nat.le_trans hz lim_le) (fun b hm => ?_) fun h1 h' tk c out kp kp2 hD hlo eo => ?_
    · exact wpAny_collect_seq a hT ho hc hd (fun h' kp => h h' s.toks kp) (by rw [List.size_toArray, hlen]; exact Nat.le_trans hz lim_le)
    · have := (hb b hm).2
      omega
    · have hv := vals_rawD eo
      have I1 : Inv X pins σ H { s with heap := h1, toks := s.toks } := I.kept kp
      have hl : ((bs.mergeSort leV).map (·.1)).length ≤ sizeLine := by
        rw [List.length_map, List.length_mergeSort]
        exact Nat.le_trans hz lim_le
      exact ⟨.ref _, _, I1.laid (o := .lst ((bs.mergeSort leV).map (·.1))) (t' := tk) kp2 (Nat.le_refl _) ⟨hl, out, c, hv, hD⟩, rfl, q _ (I1.hok.fresh (Nat.le_refl _))⟩
  rcases hS with hS | hS
  · obtain ⟨its, rv, pl, hzz⟩ := I.list hS
    obtain ⟨o, ho, hc, n, hd⟩ := pl.isList
    exact fin its "list" o n (.inl rfl) ho hc hd rv
  · obtain ⟨its, rv, pl, hzz⟩ := I.tuple hS
    obtain ⟨o, ho, hc, n, hd⟩ := pl
    exact fin its "tuple" o n (.inr rfl) ho hc hd rv
/-! the data -/
def leP (x y : D) : Bool := PySem.W.dataLe false toP x y
def tupNe : D → Bool
  | .tup (_ :: _) => true
  | _ => false
def notTup : D → Bool
  | .tup _ => false
  | .non => false
  | _ => true
def sortOk (ds : List D) : Bool := (ds.all fun x => sh 8 x) && (ds.all fun x => ds.all fun y => PySem.W.alike (toP x) (toP y)) && (ds.all tupNe || ds.all notTup)
def fSorted : List D → Option D
  | [x] => match (match x with | .tup ds => some ds | .lst ds => some ds | _ => none) with
    | some ds => if sortOk ds = true then some (.lst (ds.mergeSort leP)) else none
    | none => none
  | _ => none
abbrev DV : Type := D × V
theorem toPs_map : ∀ ds : List D, toPs ds = ds.map toP
  | [] => rfl
  | d :: ds => by rw [toPs, toPs_map ds] <;> rfl
section
variable {K : PySem.W.Frag} {E : XK} {g : G} {H : Hp}
theorem RpL.pairs : ∀ {ds : List D} {vs : List V}, RpL K g H ds vs → ∃ ts : List DV, ds = ts.map (·.1) ∧ vs = ts.map (·.2) ∧ ∀ t ∈ ts, Rp K g H t.1 t.2
  | [], vs, r => by
    simp only [RpL] at r
    subst r
    exact ⟨[], rfl, rfl, fun t ht => absurd ht (by simp)⟩
  | d :: ds, vs, r => by
    simp only [RpL] at r
    obtain ⟨v, r', rfl, r1, r2⟩ := r
    obtain ⟨ts, e1, e2, h⟩ := RpL.pairs r2
    refine ⟨(d, v) :: ts, by rw [e1] <;> rfl, by rw [e2] <;> rfl, fun t ht => ?_⟩
    rcases List.mem_cons.mp ht with rfl | ht
    · exact r1
    · exact h t ht
theorem RpL.ofPairs : ∀ {ts : List DV}, (∀ t ∈ ts, Rp K g H t.1 t.2) → RpL K g H (ts.map (·.1)) (ts.map (·.2))
  | [], _ => RpL.nil
  | t :: ts, h => RpL.cons (h t List.mem_cons_self) (RpL.ofPairs fun u hu => h u (List.mem_cons_of_mem _ hu))
theorem toP_tup {d : D} {xs : List PyData} (h : toP d = .tuple xs) : ∃ ds, d = .tup ds := by
  cases d <;> simp only [toP] at h <;> first | (cases h; done) | exact ⟨_, rfl⟩
theorem sortable_of {ds : List D} (h : (ds.all tupNe || ds.all notTup) = true) : PySem.W.Sortable (ds.map toP) := by
  rcases Bool.or_eq_true_iff.mp h with h | h
  · refine .inl fun p hp => ?_
    obtain ⟨d, hd, rfl⟩ := List.mem_map.mp hp
    have := List.all_eq_true.mp h d hd
    unfold tupNe at this
    split at this
    · rename_i x xs
      exact ⟨toP x, toPs xs, by simp only [toP, toPs]⟩
    · cases this
  · refine .inr fun p hp => ?_
    obtain ⟨d, hd, rfl⟩ := List.mem_map.mp hp
    have := List.all_eq_true.mp h d hd
    refine ⟨fun e => ?_, fun xs e => ?_⟩
    · cases d <;> simp only [toP] at e <;> first | (cases e; done) | cases this
    · obtain ⟨ds', rfl⟩ := toP_tup e
      cases this
theorem rd_sorted : RDC K (rSortedD K) fSorted := fun g H xs vs Q r h => by
  match xs, r, h with
  | [x], r, h =>
    obtain ⟨v, rfl, rv⟩ := r.one
    have key : ∃ ds a ws, (x = .tup ds ∨ x = .lst ds) ∧ v = .ref a ∧ (SqL K H a ws ∨ SqT K H a ws) ∧ RpL K g H ds ws ∧ ds.length ≤ lim ∧ sortOk ds = true ∧ PstX K g H (Rp K) Q (some (.lst (ds.mergeSort leP))) := by
      have go : ∀ ds, PstX K g H (Rp K) Q (if sortOk ds = true then some (.lst (ds.mergeSort leP)) else none) → sortOk ds = true ∧ PstX K g H (Rp K) Q (some (.lst (ds.mergeSort leP))) := fun ds h => by
        by_cases c : sortOk ds = true
        · rw [if_pos c] at h
          exact ⟨c, h⟩
        · rw [if_neg c] at h
          exact h.elim
      cases x with
      | tup ds =>
        obtain ⟨a, ws, rfl, q, rl, z⟩ := rv.tup_inv
        obtain ⟨c, h'⟩ := go ds h
        exact ⟨ds, a, ws, .inl rfl, rfl, .inr q, rl, z, c, h'⟩
      | lst ds =>
        obtain ⟨a, ws, rfl, q, rl, z⟩ := rv.lst_inv
        obtain ⟨c, h'⟩ := go ds h
        exact ⟨ds, a, ws, .inr rfl, rfl, .inl q.seq, rl, z, c, h'⟩
      | _ => exact h.elim
    obtain ⟨ds, a, ws, _, rfl, q, rl, z, c, h'⟩ := key
    obtain ⟨ts, rfl, rfl, hts⟩ := rl.pairs
    unfold sortOk at c
    rw [Bool.and_eq_true, Bool.and_eq_true] at c
    obtain ⟨⟨c1, c2⟩, c3⟩ := c
    have sh1 : ∀ t ∈ ts, sh 8 t.1 = true := fun t ht => List.all_eq_true.mp c1 t.1 (List.mem_map.mpr ⟨t, ht, rfl⟩)
    have e1 : (ts.map fun t : DV => ((t.2, toP t.1) : VP)).map (·.1) = ts.map (·.2) := by rw [List.map_map] <;> rfl
    have e2 : (ts.map fun t : DV => ((t.2, toP t.1) : VP)).map (·.2) = (ts.map (·.1)).map toP := by rw [List.map_map, List.map_map] <;> rfl
    have s1 : (ts.map fun t : DV => ((t.2, toP t.1) : VP)).mergeSort leV = (ts.mergeSort fun t u => leP t.1 u.1).map fun t => (t.2, toP t.1) := (List.map_mergeSort (r := fun t u : DV => leP t.1 u.1) (s := leV) (f := fun t : DV => ((t.2, toP t.1) : VP)) fun _ _ _ _ => rfl).symm
    have s2 : (ts.map (·.1)).mergeSort leP = (ts.mergeSort fun t u => leP t.1 u.1).map (·.1) := (List.map_mergeSort (r := fun t u : DV => leP t.1 u.1) (s := leP) (f := fun t : DV => t.1) fun _ _ _ _ => rfl).symm
    rw [s2] at h'
    rw [List.length_map] at z
    have hal : PySem.W.AllAlike ((ts.map fun t : DV => ((t.2, toP t.1) : VP)).map (·.2)) := by
      rw [e2]
      intro p hp p' hp'
      obtain ⟨d, hd, rfl⟩ := List.mem_map.mp hp
      obtain ⟨d', hd', rfl⟩ := List.mem_map.mp hp'
      exact List.all_eq_true.mp (List.all_eq_true.mp c2 d hd) d' hd'
    refine ⟨a, ts.map fun t => (t.2, toP t.1), rfl, by rw [e1]; exact q, fun p hp => ?_, hal, by rw [e2]; exact sortable_of c3, by rw [List.length_map]; exact z, fun p hp => ?_⟩
    · obtain ⟨t, ht, rfl⟩ := List.mem_map.mp hp
      exact ⟨dp_of 8 _ _ (sh1 t ht) (hts t ht), depth_of 8 _ (sh1 t ht)⟩
    · rw [s1, List.map_map]
      exact mkLst (RpL.ofPairs fun t ht => hts t (List.mem_mergeSort.mp ht)) (by rw [List.length_map, List.length_mergeSort]; exact z) h' p hp
  | [], _, h => exact h.elim
  | _ :: _ :: _, _, h => exact h.elim
theorem b_sorted {X : Cx} (hc : X.calm = true) (hu : X.A.units + 65 < cLine) (hk : X.K = K := by rfl) : BltD X K (.builtin "sorted") (rSortedD K) fSorted := by subst hk; exact ⟨rfl, cr_sortedD hu, rd_sorted⟩
end
/-! ### isinstance -/
inductive Ty4 where
  | str | tuple | int | bool
  deriving DecidableEq
def Ty4.nm : Ty4 → String
  | .str => "str"
  | .tuple => "tuple"
  | .int => "int"
  | .bool => "bool"
def tyN : D → Option String
  | .non => some "NoneType"
  | .bl _ => some "bool"
  | .int _ => some "int"
  | .str _ => some "str"
  | .tup _ => some "tuple"
  | .lst _ => some "list"
  | _ => none
def isT : Ty4 → D → Option Bool
  | _, .obj _ => none
  | _, .scr _ => none
  | .str, .str _ => some true
  | .tuple, .tup _ => some true
  | .int, .int _ => some true
  | .int, .bl _ => some true
  | .bool, .bl _ => some true
  | _, _ => some false
theorem kit_isT (T : Ty4) (d : D) (b : Bool) (h : isT T d = some b) : ∃ t, tyN d = some t ∧ kitB t T.nm = some b := by
  cases T <;> cases d <;> first
    | (cases h; done)
    | (cases h; exact ⟨_, rfl, by decide +kernel⟩)
section
variable {X : Cx} {K : PySem.W.Frag} {E : XK} {g : G} {H : Hp} {te : TE} {de : DE} {e : Expr} {p p1 p2 pos tpos : Pos} {k : Nat}
theorem tyX_of {d : D} {v : V} {t : String} (h : tyN d = some t) (r : Rp K g H d v) : TyX K H v (.type t) := by
  cases d <;> simp only [tyN] at h <;> first | (cases h; done) | skip
  · cases h; rw [r.non_inv]; exact .base .non
  · cases h; rw [r.bl_inv]; exact .base (.bl _)
  · cases h; rw [r.int_inv]; exact .base (.int _)
  · cases h; rw [r.str_inv.1]; exact .base (.str _)
  · cases h
    obtain ⟨a, vs, rfl, q, _⟩ := r.tup_inv
    rcases q with (q | ⟨o, q⟩) | ⟨o, its, n, q, c, _⟩
    · exact .base (.tup q)
    · exact .fTuple q
    · exact .kTuple q c
  · cases h
    obtain ⟨a, vs, rfl, q, _⟩ := r.lst_inv
    exact .base (.lst q.1)
theorem pe_ty {n : String} {x : Str} (hg : Gl X x) (hm : X.mg x = none) (hv : bootBuiltins x = some (.type n)) (hn : x ≠ "__name__" := by decide) (hd : (x == ("__debug__" : Str)) = false := by decide) : PE X (.Name x p) (tC (.ty n)) :=
  ⟨fun pins s σ H Q I h => ld_blt I hg hm hv ⟨.ty n, H, I, rfl, h⟩ hn hd⟩
def fIsi (T : Ty4) (d : D) : Option D := (isT T d).map .bl
theorem td_isi (T : Ty4) (he : TD K E te de) : TD K E (tCB (rIsi K) (tCons te (tCons (tC (.ty T.nm)) tNil))) (dUn (fIsi T) de) := fun g H Ω ρ σ Q S O h =>
  he g H Ω ρ σ _ S O (Pst.bind h fun x Ω1 g1 H1 v f1 O1 r1 h1 => by
    have h2 := Pst.pure O1 h1
    unfold fIsi at h2
    cases e : isT T x with
    | none => rw [e] at h2; exact h2.elim
    | some b =>
      rw [e] at h2
      obtain ⟨t, e1, e2⟩ := kit_isT T x b e
      exact ⟨v, .ty T.nm, .type t, .type T.nm, b, rfl, .ty _, tyX_of e1 r1, kit_ty e2, h2 g1 H1 _ Ext.refl Rp.bl⟩)
theorem pd_isi (T : Ty4) {x : Str} (hm : X.mg "isinstance" = none) (hmt : X.mg x = none) (he : PD X K E e te de) (hv : bootBuiltins x = some (.type T.nm) := by decide +kernel) (hg : Gl X "isinstance" := by rfl) (hgt : Gl X x := by rfl) (hn : x ≠ "__name__" := by decide) (hd : (x == ("__debug__" : Str)) = false := by decide)
    (hst : starEach [e, .Name x p2] X.env = (false, eval e X.env) :: starEach [.Name x p2] X.env := by rfl) (hpl : (backTo pos (starEach [.Name x p2] X.env)).any (·.1) = false := by rfl) :
    PD X K E (.Call (.Name "isinstance" p) [e, .Name x p2] [] pos) (tCB (rIsi K) (tCons te (tCons (tC (.ty T.nm)) tNil))) (dUn (fIsi T) de) := by
  obtain ⟨k, pe, td⟩ := he
  subst k
  exact ⟨rfl, pe_callB call_isi hg hm PyProof.Rows.boot_isinstance (pa_cons pe (pa_cons (pe_ty hgt hmt hv hn hd) pa_nil) (hs := hst)) (by decide) (by decide) hst hpl, td_isi T td⟩
/-! isinstance(x, (int, str)) -/
def fIsi2 (T U : Ty4) (d : D) : Option D := match isT T d, isT U d with
  | some a, some b => some (.bl (a || b))
  | _, _ => none
theorem td_isi2 (T U : Ty4) (he : TD K E te de) : TD K E (tCB (rIsiT K) (tCons te (tCons (tTup (tCons (tC (.ty T.nm)) (tCons (tC (.ty U.nm)) tNil))) tNil))) (dUn (fIsi2 T U) de) := fun g H Ω ρ σ Q S O h =>
  he g H Ω ρ σ _ S O (Pst.bind h fun x Ω1 g1 H1 v f1 O1 r1 h1 => by
    have h2 := Pst.pure O1 h1
    unfold fIsi2 at h2
    cases e : isT T x with
    | none => rw [e] at h2; exact h2.elim
    | some a =>
      cases e' : isT U x with
      | none => rw [e, e'] at h2; exact h2.elim
      | some b =>
        rw [e, e'] at h2
        obtain ⟨t, e1, e2⟩ := kit_isT T x a e
        obtain ⟨t', e1', e2'⟩ := kit_isT U x b e'
        rw [e1] at e1'
        cases e1'
        refine ⟨by show 2 ≤ sizeLine; decide, fun tp hp => ?_⟩
        refine ⟨v, tp, [.ty T.nm, .ty U.nm], .type t, [.type T.nm, .type U.nm], a || b, rfl, upd_same, .cons (.ty _) (.cons (.ty _) .nil), tyX_of e1 (Rp.step (Ext.new (o := .tup [.ty T.nm, .ty U.nm]) hp).fr.toGSt _ _ r1), ?_, h2 g1 _ _ (Ext.new hp) Rp.bl⟩
        refine kitAny_cons (kit_ty e2) (fun ea => ?_) fun ea => by rw [ea] <;> rfl
        refine kitAny_cons (kit_ty e2') (fun eb => ?_) fun eb => by rw [eb, Bool.or_true]
        rw [ea, eb]
        exact kitAny_nil)
theorem pd_isi2 (T U : Ty4) {x y : Str} {p3 : Pos} (hm : X.mg "isinstance" = none) (hmt : X.mg x = none) (hmu : X.mg y = none) (he : PD X K E e te de) (hv : bootBuiltins x = some (.type T.nm) := by decide +kernel) (hw : bootBuiltins y = some (.type U.nm) := by decide +kernel) (hg : Gl X "isinstance" := by rfl) (hgt : Gl X x := by rfl) (hgu : Gl X y := by rfl)
    (hn : x ≠ "__name__" := by decide) (hd : (x == ("__debug__" : Str)) = false := by decide) (hn2 : y ≠ "__name__" := by decide) (hd2 : (y == ("__debug__" : Str)) = false := by decide)
    (hst : starEach [e, .Tuple [.Name x p2, .Name y p3] k tpos] X.env = (false, eval e X.env) :: starEach [.Tuple [.Name x p2, .Name y p3] k tpos] X.env := by rfl) (hpl : (backTo pos (starEach [.Tuple [.Name x p2, .Name y p3] k tpos] X.env)).any (·.1) = false := by rfl) :
    PD X K E (.Call (.Name "isinstance" p) [e, .Tuple [.Name x p2, .Name y p3] k tpos] [] pos) (tCB (rIsiT K) (tCons te (tCons (tTup (tCons (tC (.ty T.nm)) (tCons (tC (.ty U.nm)) tNil))) tNil))) (dUn (fIsi2 T U) de) := by
  obtain ⟨k', pe, td⟩ := he
  subst k'
  exact ⟨rfl, pe_callB call_isiT hg hm PyProof.Rows.boot_isinstance (pa_cons pe (pa_cons (pe_tup (pa_cons (pe_ty hgt hmt hv hn hd) (pa_cons (pe_ty hgu hmu hw hn2 hd2) pa_nil))) pa_nil) (hs := hst)) (by decide) (by decide) hst hpl, td_isi2 T U td⟩
end
/-! ### a text so many times -/
def fMulS : D → D → Option D
  | .str l, .int n => if (decide (0 ≤ n) && decide (n ≤ 400000) && decide (l.length ≤ 10)) = true then some (.str (List.replicate n.toNat l).flatten) else none
  | _, _ => none
def rMulS : R2 := fun x y H Q => ∃ (l : List Nat) (n : Int), x = .str ⟨l.toArray⟩ ∧ y = .int n ∧ 0 ≤ n ∧ n ≤ 400000 ∧ l.length ≤ 10 ∧ Q (.str ⟨(List.replicate n.toNat l).flatten.toArray⟩) H
theorem foldl_app (l : Array Nat) : ∀ (m : Nat) (acc : Array Nat), (List.replicate m l).foldl (· ++ ·) acc = acc ++ (List.replicate m l.toList).flatten.toArray
  | 0, acc => by simp
  | m + 1, acc => by
    rw [List.replicate_succ, List.foldl_cons, foldl_app l m, List.replicate_succ, List.flatten_cons, Array.append_assoc]
    congr 1
    apply Array.ext'
    simp
theorem op_mulS {X : Cx} : OpR X (binaryOp .Mult) rMulS := by
  intro pins s σ H x y v u Q I rx ry h
  obtain ⟨l, n, rfl, rfl, h0, h1, hz, q⟩ := h
  obtain ⟨t, rfl⟩ := rx
  obtain ⟨t', rfl⟩ := ry
  have hlen : (⟨l.toArray⟩ : Str).length = l.length := S_len l
  have hb : (l.length : Int) * n ≤ 4000000 := by
    have a1 : (l.length : Int) * n ≤ 10 * n := Int.mul_le_mul_of_nonneg_right (by omega) h0
    omega
  refine PySem.P.mul_str (by rw [decide_eq_false (by omega), decide_eq_false (by omega)] <;> rfl) (fun h2 _ => ?_) (fun h2 _ => ?_) ?_
  · rw [hlen]
    have : (2 : Int) ^ 63 - 1 ≥ 10 * n := by omega
    have h3 : (10 : Int) ≤ (2 ^ 63 - 1) / n := (Int.le_ediv_iff_mul_le (by omega)).mpr (by omega)
    omega
  · rw [hlen]
    unfold PySem.Builtin.Str.tooLong
    rw [sizeLine_eq]
    have : l.length * n.toNat ≤ 10 * 400000 := Nat.mul_le_mul hz (by omega)
    exact decide_eq_false (by omega)
  · by_cases c : n < 1
    · rw [if_pos c]
      have e : n.toNat = 0 := by omega
      rw [e] at q
      exact ⟨by decide, ⟨.str _, H, I.tok _, ⟨_, rfl⟩, q⟩⟩
    · rw [if_neg c]
      by_cases c2 : (n == 1 || (⟨l.toArray⟩ : Str).length == 0) = true
      · rw [if_pos c2]
        refine ⟨.str _, H, I, ⟨_, rfl⟩, ?_⟩
        have e : (List.replicate n.toNat l).flatten = l := by
          rcases Bool.or_eq_true_iff.mp c2 with z | z
          · have e1 : n = 1 := eq_of_beq z
            subst e1
            simp
          · have e1 : l.length = 0 := by rw [← hlen]; exact eq_of_beq z
            have e2 : l = [] := List.eq_nil_of_length_eq_zero e1
            subst e2
            simp
        rw [e] at q
        exact q
      · rw [if_neg c2]
        have e : (List.replicate n.toNat (⟨l.toArray⟩ : Str).cps).foldl (· ++ ·) #[] = (List.replicate n.toNat l).flatten.toArray := by
          rw [foldl_app]
          simp
        rw [e]
        refine ⟨?_, ⟨.str _, H, I.tok _, ⟨_, rfl⟩, q⟩⟩
        rw [S_len, PyProof.Rows.lm_len_rep_flat, sizeLine_eq]
        have : n.toNat * l.length ≤ 400000 * 10 := Nat.mul_le_mul (by omega) hz
        omega
section
variable {X : Cx} {K : PySem.W.Frag} {E : XK} {a b : Expr} {ta tb : TE} {da db : DE} {pos : Pos}
theorem rd_mulS : RD2 K rMulS fMulS := fun g H x y v w Q rx ry h => by
  cases x <;> cases y <;> try exact h.elim
  rename_i l n
  obtain ⟨rfl, z, w1⟩ := rx.str_inv
  rw [ry.int_inv]
  simp only [fMulS] at h
  by_cases c : (decide (0 ≤ n) && decide (n ≤ 400000) && decide (l.length ≤ 10)) = true
  · rw [if_pos c] at h
    simp only [Bool.and_eq_true, decide_eq_true_eq] at c
    refine ⟨l, n, rfl, rfl, c.1.1, c.1.2, c.2, h g H _ Ext.refl (Rp.str ?_ ?_)⟩
    · rw [PyProof.Rows.lm_len_rep_flat]
      have : n.toNat * l.length ≤ 400000 * 10 := Nat.mul_le_mul (by omega) c.2
      unfold lim
      omega
    · exact List.all_eq_true.mpr fun c hc => by
        obtain ⟨m, hm, hc⟩ := List.mem_flatten.mp hc
        rw [List.eq_of_mem_replicate hm] at hc
        exact List.all_eq_true.mp w1 c hc
  · rw [if_neg c] at h
    exact h.elim
theorem pd_mulS (ha : PD X K E a ta da) (hb : PD X K E b tb db) : PD X K E (.BinOp a .Mult b pos) (tOp rMulS ta tb) (dOp fMulS da db) := ⟨ha.k, pe_op op_mulS ha.pe hb.pe, td_op rd_mulS ha.td hb.td⟩
end
end Fm
/-! Fm, part 13: zip; xs[::-1]; count, index; raise. -/
namespace Fm
open PySem PySem.Spec L2
open PyProof.Rows hiding St

/-! ### t[::-1], t a tuple -/
theorem filterMap_some {α β : Type} {f : α → Option β} {g : α → β} : ∀ {l : List α}, (∀ k ∈ l, f k = some (g k)) → l.filterMap f = l.map g
  | [], _ => rfl
  | k :: l, h => by
    rw [List.filterMap_cons, h k List.mem_cons_self, filterMap_some fun x hx => h x (List.mem_cons_of_mem _ hx)]
    rfl
theorem pick_back (xs : List Value) : (List.range xs.length).filterMap (fun (k : Nat) => xs[(((xs.length : Int) - 1) + (k : Int) * -1).toNat]?) = xs.reverse := by
  apply List.ext_getElem?
  intro i
  have h1 : ∀ k, k ∈ List.range xs.length → (xs[(((xs.length : Int) - 1) + (k : Int) * -1).toNat]?) = some (xs.reverse.getD k default) := by
    intro k hk
    have hk := List.mem_range.mp hk
    have e : (((xs.length : Int) - 1) + (k : Int) * -1).toNat = xs.length - 1 - k := by omega
    rw [e, List.getElem?_eq_getElem (by omega), List.getD_eq_getElem?_getD, List.getElem?_reverse (by omega), List.getElem?_eq_getElem (by omega)]
    rfl
  have e2 : (List.range xs.length).filterMap (fun (k : Nat) => xs[(((xs.length : Int) - 1) + (k : Int) * -1).toNat]?) = (List.range xs.length).map fun k => xs.reverse.getD k default := filterMap_some h1
  rw [e2, List.getElem?_map]
  by_cases hi : i < xs.length
  · rw [List.getElem?_range hi, List.getElem?_reverse hi, List.getElem?_eq_getElem (by omega)]
    show some (xs.reverse.getD i default) = _
    rw [List.getD_eq_getElem?_getD, List.getElem?_reverse hi, List.getElem?_eq_getElem (by omega)]
    rfl
  · rw [List.getElem?_eq_none (by simp; omega), List.getElem?_eq_none (by simp; omega)]
    rfl
section
variable {prog : Program} {w : World} {A : Around} {E : Value → Shared → Prop} {s : Shared}
theorem sliceApplied_back {sl : Addr} {vl vu vs : Value} {n : Nat} {Q : Int × Int × Nat → Shared → Prop} (hs : s.heap.IsSliceOf sl vl vu vs) (pl : IsPart vl none) (pu : IsPart vu none) (ps : IsPart vs (some (-1)))
    (h : Q ((n : Int) - 1, -1, n) s) : wpAny (model prog w) A (Builtin.Slice.sliceApplied (.ref sl) (pure (n : Int))) Q E s := by
  obtain ⟨os, hos, hcs, hds⟩ := id hs
  unfold Builtin.Slice.sliceApplied Builtin.Slice.sliceFields
  refine wpAny_bind (wpAny_bind (wpAny_field hos hds (x := vl) rfl (wpAny_bind (wpAny_field hos hds (x := vu) rfl (wpAny_bind (wpAny_field hos hds (x := vs) rfl (wpAny_pure ?_)))))))
  refine wpAny_bind (HT.slicePart_ ps ?_)
  show wpAny _ _ (if ((-1 : Int) == 0) = true then _ else _) _ _ s
  rw [if_neg (by decide)]
  refine wpAny_bind (HT.slicePart_ pl (wpAny_bind (HT.slicePart_ pu (wpAny_bind (wpAny_pure ?_)))))
  show wpAny _ _ (match Builtin.Slice.sliceAdjust none none (-1) (n : Int) with | (lo, hi) => pure (lo, (-1 : Int), Builtin.Slice.slicePlaces lo hi (-1))) _ _ s
  have e : Builtin.Slice.sliceAdjust none none (-1) (n : Int) = ((n : Int) - 1, -1) := rfl
  rw [e]
  show wpAny _ _ (pure ((n : Int) - 1, (-1 : Int), Builtin.Slice.slicePlaces ((n : Int) - 1) (-1) (-1))) _ _ s
  have e2 : Builtin.Slice.slicePlaces ((n : Int) - 1) (-1) (-1) = n := by
    unfold Builtin.Slice.slicePlaces
    have h1 : ¬ ((-1 : Int) > 0) := by omega
    have h2 : (-(-1 : Int)) = 1 := by omega
    simp only [h1, if_false, h2, Int.ediv_one]
    split <;> omega
  rw [e2]
  exact wpAny_pure h
theorem getItem_tuple_back {t sl : Addr} {its : List Value} {vl vu vs : Value} {Q : Value → Shared → Prop} (ht : IsTup s.heap t its.toArray) (hs : s.heap.IsSliceOf sl vl vu vs) (pl : IsPart vl none) (pu : IsPart vu none) (ps : IsPart vs (some (-1)))
    (h : Q (.ref s.heap.objs.size) { s with heap := s.heap.push { cls := .type "tuple", data := .seq its.reverse.toArray } }) (hsz : its.length ≤ sizeLine) : wpAny (model prog w) A (getItem (.ref t) (.ref sl)) Q E s := by
  have hok : sizeOk (.seq its.reverse.toArray) := by
    show its.reverse.toArray.size ≤ sizeLine
    rw [List.size_toArray, List.length_reverse]
    exact hsz
  obtain ⟨os, hos, hcs, hds⟩ := id hs
  have hTs : s.TypeIs (.ref sl) "slice" := ⟨os, hos, hcs⟩
  unfold getItem
  try with_reducible refine wpAny_holding ?_
  first | refine wpAny_bind (wpAny_pure ?_) | skip
  refine wpAny_bind (wpAny_sequenceKey ht.typeIs (by decide) ?_)
  refine wpAny_bind (wpAny_callSpecial?_slot (name := Str.ofString "__getitem__") ht.typeIs PyProof.Rows.slot_tuple_getitem
    (wpAny_call_entry PyProof.Rows.slot_tuple_getitem ht.typeIs entry_tuple_getitem ?_ (args_tuple_getitem _ _)))
  show wpAny _ _ (Builtin.Tuple.tupleItemsOf (.ref t) >>= _) _ _ s
  refine wpAny_bind (tupleItemsOf_ ht ?_)
  refine wpAny_bind (wpAny_typeOf hTs ?_)
  rw [if_pos (by decide)]
  refine wpAny_bind (sliceApplied_back hs pl pu ps ?_)
  show wpAny _ _ (if (((its.toArray.size : Int) - 1) == 0 && (-1 : Int) == 1 && its.toArray.size == its.toArray.size) = true then _ else _) _ _ s
  rw [if_neg (by simp)]
  have e : ((List.range its.toArray.size).filterMap fun (k : Nat) => its.toArray[(((its.toArray.size : Int) - 1) + (k : Int) * -1).toNat]?).toArray = its.reverse.toArray := by
    have := pick_back its
    simp only [List.size_toArray, List.getElem?_toArray]
    rw [this]
  rw [e]
  first
    | exact wpAny_bind (m := Builtin.Tuple.tupleExact _) (wpAny_newObj_type (wpAny_pure ⟨_, rfl, wpAny_pure h⟩) hok)
    | exact wpAny_bind (m := Builtin.Tuple.tupleExact _) (wpAny_newObj_type (wpAny_bind (wpAny_pure (wpAny_pure ⟨_, rfl, wpAny_pure h⟩))) hok)
    | exact wpAny_bind (wpAny_bind (m := Builtin.Tuple.tupleExact _) (wpAny_newObj_type (wpAny_pure (wpAny_pure ⟨_, rfl, wpAny_pure h⟩)) hok))
    | exact wpAny_bind (wpAny_bind (m := Builtin.Tuple.tupleExact _) (wpAny_newObj_type (wpAny_pure ⟨_, rfl, wpAny_pure h⟩) hok))
end
/-- xs[::-1], a list or a tuple -/
def tRevA (K : PySem.W.Frag) (te : TE) : TE := fun σ H Q => te σ H fun x H1 => ∃ a xs, x = .ref a ∧ ((SqL K H1 a xs ∧ ∀ p, H1 p = none → Q (.ref p) (upd H1 p (.lst xs.reverse))) ∨ (SqT K H1 a xs ∧ ∀ p, H1 p = none → Q (.ref p) (upd H1 p (.tup xs.reverse))))
theorem pe_revA {X : Cx} {e : Expr} {te : TE} {k : Nat} {p1 p2 p3 pos : Pos} (he : PE X e te) : PE X (.Subscript e (.Slice none none (some (.UnaryOp .USub (.Constant (.int 1) k p1) p2)) p3) pos) (tRevA X.K te) := by
  refine ⟨fun pins s σ H Q I h => ?_⟩
  refine Subscript_ (thn (he.run pins s σ H _ I h) fun v s1 ⟨x, H1, I1, r1, q1⟩ => ?_)
  obtain ⟨a, xs, ex, q⟩ := q1
  subst ex
  cases r1
  have hst : PO X (some (.UnaryOp .USub (.Constant (.int 1) k p1) p2)) (tPart (tUn (rU fun i => .int (-i)) (tC (.int 1)))) := po_some (pe_un un_neg pe_int)
  refine wpAny_Slice (thn (po_none.run pins s1 σ H1 (fun o H2 => o = none ∧ H2 = H1) I1 ⟨rfl, rfl⟩) fun vl s2 ⟨l, H2, I2, pl, el, e2⟩ => ?_)
  subst el e2
  refine thn (po_none.run pins s2 σ H2 (fun o H3 => o = none ∧ H3 = H2) I2 ⟨rfl, rfl⟩) fun vu s3 ⟨u, H3, I3, pu, eu, e3⟩ => ?_
  subst eu e3
  refine thn (hst.run pins s3 σ H3 (fun o H4 => o = some (-1) ∧ H4 = H3) I3 ⟨1, rfl, -1, rfl, rfl, rfl⟩) fun vs s4 ⟨o, H4, I4, ps, eo, e4⟩ => ?_
  subst eo e4
  have I5 : Inv X pins σ H4 { s4 with heap := s4.heap.push { cls := .type "slice", data := .fields #[vl, vu, vs] } } := I4.kept (t' := s4.toks) fun b ob q => Heap.get?_push_of_some _ q
  show wpAny (model X.prog X.w) X.A (subscriptTail e (.Slice none none (some (.UnaryOp .USub (.Constant (.int 1) k p1) p2)) p3) (.ref a) (.ref s4.heap.objs.size)) (EP X pins σ Q) X.xe { s4 with heap := s4.heap.push { cls := .type "slice", data := .fields #[vl, vu, vs] } }
  rcases q with ⟨hx, q⟩ | ⟨hx, q⟩
  · obtain ⟨its, r, ht, hz⟩ := I5.list hx
    have hlen := r.length
    refine tail_any (ops := [.ref a, .ref s4.heap.objs.size]) ht.isList.typeIs (PySem.slot_list_getitem.lookup) ?_ (by with_unfolding_all rfl)
    refine wpAny_getItem_list_slice ht.isList (Heap.IsSliceOf.new _ vl vu vs) pl pu ps (by decide) ?_ (by rw [List.size_toArray]; omega)
    rw [PySem.W.krv_pick]
    refine ⟨.ref _, _, I5.laid (t' := s4.toks) (o := .lst xs.reverse) (fun b ob q => Heap.get?_push_of_some _ q) (Nat.le_refl _) ?_, rfl, q _ (I5.hok.fresh (Nat.le_refl _))⟩
    exact ⟨by rw [List.length_reverse]; exact hz, _, 0, r.reverse, Heap.get?_push_size _ rfl⟩
  · obtain ⟨its, r, ht, hz⟩ := I5.tuple hx
    have hlen := r.length
    refine tail_any (ops := [.ref a, .ref s4.heap.objs.size]) ht.typeIs PyProof.Rows.slot_tuple_getitem.lookup ?_ (by with_unfolding_all rfl)
    refine getItem_tuple_back ht (Heap.IsSliceOf.new _ vl vu vs) pl pu ps ?_ (by omega)
    refine ⟨.ref _, _, I5.laid (t' := s4.toks) (o := .tup xs.reverse) (fun b ob q => Heap.get?_push_of_some _ q) (Nat.le_refl _) ?_, rfl, q _ (I5.hok.fresh (Nat.le_refl _))⟩
    exact ⟨by rw [List.length_reverse]; exact hz, _, r.reverse, IsTup.new _ _⟩
def fRev : D → Option D
  | .tup ds => some (.tup ds.reverse)
  | .lst ds => some (.lst ds.reverse)
  | _ => none
section
variable {X : Cx} {K : PySem.W.Frag} {E : XK} {a b e : Expr} {te ta tb : TE} {de da db : DE} {pos p p1 p2 p3 tpos : Pos} {tas : TA} {das : DA}
theorem td_rev (he : TD K E te de) : TD K E (tRevA K te) (dUn fRev de) := fun g H Ω ρ σ Q S O h =>
  he g H Ω ρ σ _ S O (Pst.bind h fun x Ω1 g1 H1 v f1 O1 r1 h1 => by
    have h2 := Pst.pure O1 h1
    cases x with
    | tup ds =>
      obtain ⟨a, vs, rfl, q, rl, z⟩ := r1.tup_inv
      exact ⟨a, vs, rfl, .inr ⟨q, fun p hp => mkTup rl.reverse (by rw [List.length_reverse]; exact z) h2 p hp⟩⟩
    | lst ds =>
      obtain ⟨a, vs, rfl, q, rl, z⟩ := r1.lst_inv
      exact ⟨a, vs, rfl, .inl ⟨q.seq, fun p hp => mkLst rl.reverse (by rw [List.length_reverse]; exact z) h2 p hp⟩⟩
    | _ => exact h2.elim)
theorem pd_rev {k : Nat} (he : PD X K E e te de) : PD X K E (.Subscript e (.Slice none none (some (.UnaryOp .USub (.Constant (.int 1) k p1) p2)) p3) pos) (tRevA K te) (dUn fRev de) := by
  obtain ⟨k', pe, td⟩ := he
  subst k'
  exact ⟨rfl, pe_revA pe, td_rev td⟩
/-! ### zip of two -/
def zipL : List D → List D → List D
  | x :: xs, y :: ys => .tup [x, y] :: zipL xs ys
  | _, _ => []
theorem zipL_len : ∀ (xs ys : List D), (zipL xs ys).length = min xs.length ys.length
  | [], _ => by simp [zipL]
  | _ :: _, [] => by simp [zipL]
  | x :: xs, y :: ys => by simp only [zipL, List.length_cons, zipL_len xs ys]; omega
theorem zipL_get : ∀ {xs ys : List D} {i : Nat} {d : D}, (zipL xs ys)[i]? = some d → ∃ x y, xs[i]? = some x ∧ ys[i]? = some y ∧ d = .tup [x, y]
  | [], _, _, _, e => by simp [zipL] at e
  | _ :: _, [], _, _, e => by simp [zipL] at e
  | x :: xs, y :: ys, 0, d, e => by simp [zipL] at e; exact ⟨x, y, rfl, rfl, e.symm⟩
  | x :: xs, y :: ys, i + 1, d, e => by
    have e' : (zipL xs ys)[i]? = some d := by simpa [zipL] using e
    obtain ⟨x', y', h1, h2, h3⟩ := zipL_get e'
    exact ⟨x', y', by simpa using h1, by simpa using h2, h3⟩
def asZip (da : DA) : DI := fun ρ Ω => (da ρ Ω).bind fun d Ω1 => match d with
  | [.tup xs, .tup ys] => .ok (zipL xs ys) Ω1
  | [.lst xs, .lst ys] => .ok (zipL xs ys) Ω1
  | _ => .bad
theorem walk_zipT {a b : Addr} {xs ys : List V} {n : Nat} (hn : n = min xs.length ys.length) : Walk (RZ.ItzT K a b) n (fun H => SqT K H a xs ∧ SqT K H b ys) (YPair (fun i => xs[i]?) (fun i => ys[i]?)) := by
  subst hn
  refine ⟨fun i _ hi q => ?_, fun _ q => ⟨xs, ys, q.1, q.2, by omega⟩, fun i H v H' _ q y => ?_⟩
  · have h1 : i < xs.length := by omega
    have h2 : i < ys.length := by omega
    exact ⟨xs, ys, xs[i], ys[i], q.1, q.2, by simp [h1], by simp [h2]⟩
  · obtain ⟨T, x, z, h1, h2, h3, h4, h5⟩ := y
    exact ⟨T, x, z, h1, h2, h3, h4 xs q.1, h5 ys q.2⟩
theorem tdi_zip (h1 : TDA K E tas das) : TDI K E (RZ.iZipA K tas) (asZip das) := fun g H Ω ρ σ R S O h =>
  h1 g H Ω ρ σ _ S O (Pst.bind h fun x Ω1 g1 H1 v f1 o1 r1 h' => by
    have pair : ∀ {ds es : List D} {xs ys : List V} {J : It} {Gd : Hp → Prop}, RpL K g1 H1 ds xs → RpL K g1 H1 es ys → Walk J (min xs.length ys.length) Gd (YPair (fun i => xs[i]?) (fun i => ys[i]?)) → (∀ g2 H2, GSt g1 H1 g2 H2 → Gd H2) → WalkD K g1 H1 (zipL ds es) J := by
      intro ds es xs ys J Gd rx ry w hk
      refine ⟨Gd, YPair (fun i => xs[i]?) (fun i => ys[i]?), ?_, hk, fun i d g2 H2 x H3 f e y => ?_⟩
      · rw [zipL_len, ← rx.length, ← ry.length]
        exact w
      · obtain ⟨T, x1, y1, rfl, hT, rfl, hx, hy⟩ := y
        obtain ⟨d1, d2, e1, e2, rfl⟩ := zipL_get e
        obtain ⟨w1, e3, e4⟩ := rx.get e1
        obtain ⟨w2, e5, e6⟩ := ry.get e2
        have hx' : xs[i]? = some x1 := hx
        have hy' : ys[i]? = some y1 := hy
        rw [hx'] at e3
        cases e3
        rw [hy'] at e5
        cases e5
        exact mk2 (Rp.step f _ _ e4) (Rp.step f _ _ e6) hT
    match x, r1, h' with
    | [.tup ds, .tup es], r1, h' =>
      obtain ⟨v1, v2, rfl, r1, r2⟩ := r1.two
      obtain ⟨a, xs, rfl, q, rl, z⟩ := r1.tup_inv
      obtain ⟨b, ys, rfl, q2, rl2, z2⟩ := r2.tup_inv
      exact ⟨a, b, xs, ys, rfl, .inr ⟨q, q2, h' g1 H1 _ Fr.refl o1 (pair rl rl2 (walk_zipT rfl) fun g2 H2 f => ⟨SqT.step f q, SqT.step f q2⟩)⟩⟩
    | [.lst ds, .lst es], r1, h' =>
      obtain ⟨v1, v2, rfl, r1, r2⟩ := r1.two
      obtain ⟨a, xs, rfl, q, rl, z⟩ := r1.lst_inv
      obtain ⟨b, ys, rfl, q2, rl2, z2⟩ := r2.lst_inv
      exact ⟨a, b, xs, ys, rfl, .inl ⟨q.seq, q2.seq, h' g1 H1 _ Fr.refl o1 (pair rl rl2 (walk_zip rfl) fun g2 H2 f => ⟨(LkL.step f q).seq, (LkL.step f q2).seq⟩)⟩⟩
    | [], _, h' => exact h'.elim
    | [x], _, h' => cases x <;> exact h'.elim
    | [.tup _, .lst _], _, h' => exact h'.elim
    | [.lst _, .tup _], _, h' => exact h'.elim
    | [.tup _, .non], _, h' => exact h'.elim
    | [.tup _, .bl _], _, h' => exact h'.elim
    | [.tup _, .int _], _, h' => exact h'.elim
    | [.tup _, .str _], _, h' => exact h'.elim
    | [.tup _, .obj _], _, h' => exact h'.elim
    | [.tup _, .scr _], _, h' => exact h'.elim
    | [.lst _, .non], _, h' => exact h'.elim
    | [.lst _, .bl _], _, h' => exact h'.elim
    | [.lst _, .int _], _, h' => exact h'.elim
    | [.lst _, .str _], _, h' => exact h'.elim
    | [.lst _, .obj _], _, h' => exact h'.elim
    | [.lst _, .scr _], _, h' => exact h'.elim
    | [.non, _], _, h' => exact h'.elim
    | [.bl _, _], _, h' => exact h'.elim
    | [.int _, _], _, h' => exact h'.elim
    | [.str _, _], _, h' => exact h'.elim
    | [.obj _, _], _, h' => exact h'.elim
    | [.scr _, _], _, h' => exact h'.elim
    | x :: y :: _ :: _, _, h' => cases x <;> cases y <;> exact h'.elim)
theorem pi_zp {elts : List Expr} {kk : Nat} (hm : X.mg "zip" = none) (ha : PDA X K E [a, b] tas das) (hg : Gl X "zip" := by rfl)
    (hs : starEach [a, b] X.env = (false, eval a X.env) :: starEach [b] X.env := by rfl) (hpl : (backTo pos (starEach [b] X.env)).any (·.1) = false := by rfl) :
    PDI X K E (.Tuple elts kk tpos) (.Call (.Name "zip" p) [a, b] [] pos) (RZ.iZipA K tas) (asZip das) := by
  obtain ⟨k, pa, qa⟩ := ha
  subst k
  exact ⟨rfl, RZ.pi_zipA hg hm pa hs hpl, tdi_zip qa⟩
end
end Fm
/-! Fm, part 14: l.count(x), l.index(x); raise. -/
namespace Fm
open PySem PySem.Spec L2
open PyProof.Rows hiding St

/-! ### l.count(x), l.index(x) -/
def rCountD (K : PySem.W.Frag) : V → List V → Hp → VK → Prop := fun x xs H Q => ∃ (a : Addr) (y : V) (d : PyData) (ds : List PyData), x = V.ref a ∧ xs = [y] ∧ Dp K H (V.ref a) (.list ds) ∧ Dp K H y d ∧
  SeqAt.shaped (.list ds) = true ∧ SeqAt.shaped d = true ∧ Q (.int ((ds.countP fun z => PyData.eqv z d : Nat) : Int)) H
theorem mt_countD {X : Cx} (hu : X.A.units + 65 < cLine) : MtR X "list.count" (rCountD X.K) := by
  intro pins s σ H x xs v us Q I rx rxs h
  obtain ⟨a, y, d, ds, rfl, rfl, hl, hy, sl, sd, q⟩ := h
  cases rx
  cases rxs with
  | cons ry rt =>
    rename_i uy ut
    cases rt
    obtain ⟨bs, r1⟩ := Dp.reads I d y uy hy ry
    have hxs : PyData.canLayAll0 ds = true := SeqAt.canLay_of_shaped sl
    have hroom : X.A.units + 1 + min (PyData.depthAll ds) d.depth < cLine := room_in_shaped sd hu
    cases hl with
    | lst hs ha =>
      obtain ⟨its, rv, ⟨⟨cls, dd, data, sls⟩, n, ho, hc, hdn, hdt⟩, hlen⟩ := I.list hs
      simp only at hc hdt
      subst hc hdt
      obtain ⟨as, h4⟩ := Dp.readsAll I ds _ its ha rv
      have hmap : its.map (SeqAt.readOf s.heap) = ds := SeqAt.readsAll_map ds its as hxs h4
      refine call_meets PySem.F.slot_list_count ⟨_, ho, rfl⟩ PySem.F.entry_list_count (PySem.F.args_list_count_2 _ _)
        (SeqAt.list_countAt a its.toArray n dd sls uy (fun u => PyData.eqv (SeqAt.readOf s.heap u) d)) ⟨ho, SeqAt.items_eqAt (vs := its.toArray) (show ReadsAll s.heap its.toArray.toList ds as from h4) r1 hxs (SeqAt.canLay_of_shaped sd) hroom, ?_⟩
      have e : its.toArray.toList.countP (fun u => PyData.eqv (SeqAt.readOf s.heap u) d) = ds.countP fun z => PyData.eqv z d := by
        rw [← hmap, List.countP_map]
        rfl
      refine ⟨.int _, H, I.tok _, ⟨s.toks, ?_⟩, q⟩
      show Value.int ((its.toArray.toList.countP (fun u => PyData.eqv (SeqAt.readOf s.heap u) d) : Nat) : Int) s.toks = _
      rw [e]
def placeOf : List D → D → Option Nat
  | [], _ => none
  | z :: zs, y => if deq z y = true then some 0 else (placeOf zs y).map (· + 1)
theorem placeOf_some : ∀ {ds : List D} {y : D} {j : Nat}, placeOf ds y = some j → ∃ z, ds[j]? = some z ∧ deq z y = true ∧ ∀ (m : Nat) (z' : D), m < j → ds[m]? = some z' → deq z' y = false
  | z :: zs, y, j, h => by
    unfold placeOf at h
    by_cases c : deq z y = true
    · rw [if_pos c] at h
      cases h
      exact ⟨z, rfl, c, fun m _ hm => absurd hm (Nat.not_lt_zero m)⟩
    · rw [if_neg c] at h
      obtain ⟨i, e1, rfl⟩ := Option.map_eq_some_iff.mp h
      obtain ⟨w, h1, h2, h3⟩ := placeOf_some e1
      refine ⟨w, by simpa using h1, h2, fun m z' hm e => ?_⟩
      cases m with
      | zero =>
        simp at e
        subst e
        simpa using c
      | succ m => exact h3 m z' (by omega) (by simpa using e)
def fIndex : D → D → Option D
  | .lst ds, y => if (sh 8 (.lst ds) && sh 8 y) = true then (placeOf ds y).map fun j => .int (j : Nat) else none
  | _, _ => none
def fCount : D → D → Option D
  | .lst ds, y => if (sh 8 (.lst ds) && sh 8 y) = true then some (.int ((ds.countP fun z => deq z y : Nat) : Int)) else none
  | _, _ => none
section
variable {X : Cx} {K : PySem.W.Frag} {E : XK} {a b : Expr} {ta tb : TE} {da db : DE} {pos apos : Pos}
theorem toPs_get {ds : List D} {j : Nat} : (toPs ds)[j]? = (ds[j]?).map toP := by rw [toPs_map, List.getElem?_map]
def dML (f : D → D → Option D) (da db : DE) : DE := fun ρ Ω => (da ρ Ω).bind fun x Ω1 => match x with
  | .lst ds => (db ρ Ω1).bind fun y Ω2 => lift (f (.lst ds) y) Ω2
  | _ => .bad
theorem td_lm {r : V → List V → Hp → VK → Prop} {f : D → D → Option D} (hr : ∀ g H ds y v w Q, Rp K g H (.lst ds) v → Rp K g H y w → PstX K g H (Rp K) Q (f (.lst ds) y) → r v [w] H Q) (ha : TD K E ta da) (hb : TD K E tb db) :
    TD K E (tBM K "list" r ta (tCons tb tNil)) (dML f da db) := fun g H Ω ρ σ Q S O h =>
  ha g H Ω ρ σ _ S O (Pst.bind h fun x Ω1 g1 H1 v f1 O1 r1 q => by
    cases x with
    | lst ds =>
      obtain ⟨a, vs, rfl, q1, rl, z⟩ := id r1.lst_inv
      refine ⟨.inl ⟨rfl, vs, q1.seq⟩, ?_⟩
      refine hb g1 H1 Ω1 ρ σ _ (S.fr f1) O1 (Pst.bind q fun y Ω2 g2 H2 w f2 O2 r2 q2 => ?_)
      exact hr g2 H2 ds y _ w Q (Rp.step f2.toGSt _ _ r1) r2 (Pst.pure O2 q2)
    | _ => exact q.elim)
theorem pd_index (hu : X.A.units + 65 < cLine) (ha : PD X K E a ta da) (hb : PD X K E b tb db) (hbase : attributeBase a "index" X.env (eval a X.env) = eval a X.env := by rfl)
    (hfew : ((backTo pos (starEach [b] X.env)).all (fun x => !x.1) && (backToKw pos (keywordEach [] X.env)).all (fun x => x.1.isSome) && decide ([b].length + ([] : List Keyword).length + (if ([] : List Keyword).isEmpty then 0 else 1) < 30)) = true := by rfl)
    (hline : (apos.endLine == pos.line) = true := by rfl) (hs : starEach [b] X.env = (false, eval b X.env) :: starEach [] X.env := by rfl) (hplain : (backTo pos (starEach [] X.env)).any (·.1) = false := by rfl) :
    PD X K E (.Call (.Attribute a "index" apos) [b] [] pos) (tBM K "list" (rIndexD K) ta (tCons tb tNil)) (dML fIndex da db) := by
  obtain ⟨k, pa, qa⟩ := ha
  subst k
  refine ⟨rfl, pe_bm PySem.F.plainAttrs_list PySem.F.slot_list_index PySem.F.type_list_index (mt_indexD hu) pa (pa_cons hb.pe pa_nil hs) hbase hfew hline hs hplain, td_lm (fun g H ds y v w Q r1 r2 h => ?_) qa hb.td⟩
  by_cases c : (sh 8 (.lst ds) && sh 8 y) = true
  · unfold fIndex at h
    simp only [if_pos c] at h
    rw [Bool.and_eq_true] at c
    cases e : placeOf ds y with
    | none => rw [e] at h; exact h.elim
    | some j =>
      rw [e] at h
      obtain ⟨z, h1, h2, h3⟩ := placeOf_some e
      obtain ⟨p, vs, rfl, q, _⟩ := id r1.lst_inv
      have d1 := dp_of 8 _ _ c.1 r1
      have e1 : toP (.lst ds) = .list (toPs ds) := by simp only [toP]
      rw [e1] at d1
      refine ⟨p, w, toP y, toPs ds, j, toP z, rfl, rfl, d1, dp_of 8 _ _ c.2 r2, by rw [← e1]; exact shaped_of (by decide) c.1 r1, shaped_of (by decide) c.2 r2, by rw [toPs_get, h1] <;> rfl, h2, fun m z' hm e2 => ?_, h g H _ Ext.refl Rp.int⟩
      rw [toPs_get] at e2
      obtain ⟨z0, e3, rfl⟩ := Option.map_eq_some_iff.mp e2
      exact h3 m z0 hm e3
  · unfold fIndex at h
    simp only [if_neg c] at h
    exact h.elim
theorem pd_count (hu : X.A.units + 65 < cLine) (ha : PD X K E a ta da) (hb : PD X K E b tb db) (hbase : attributeBase a "count" X.env (eval a X.env) = eval a X.env := by rfl)
    (hfew : ((backTo pos (starEach [b] X.env)).all (fun x => !x.1) && (backToKw pos (keywordEach [] X.env)).all (fun x => x.1.isSome) && decide ([b].length + ([] : List Keyword).length + (if ([] : List Keyword).isEmpty then 0 else 1) < 30)) = true := by rfl)
    (hline : (apos.endLine == pos.line) = true := by rfl) (hs : starEach [b] X.env = (false, eval b X.env) :: starEach [] X.env := by rfl) (hplain : (backTo pos (starEach [] X.env)).any (·.1) = false := by rfl) :
    PD X K E (.Call (.Attribute a "count" apos) [b] [] pos) (tBM K "list" (rCountD K) ta (tCons tb tNil)) (dML fCount da db) := by
  obtain ⟨k, pa, qa⟩ := ha
  subst k
  refine ⟨rfl, pe_bm PySem.F.plainAttrs_list PySem.F.slot_list_count PySem.F.type_list_count (mt_countD hu) pa (pa_cons hb.pe pa_nil hs) hbase hfew hline hs hplain, td_lm (fun g H ds y v w Q r1 r2 h => ?_) qa hb.td⟩
  by_cases c : (sh 8 (.lst ds) && sh 8 y) = true
  · unfold fCount at h
    simp only [if_pos c] at h
    rw [Bool.and_eq_true] at c
    obtain ⟨p, vs, rfl, q, _⟩ := id r1.lst_inv
    have d1 := dp_of 8 _ _ c.1 r1
    have e1 : toP (.lst ds) = .list (toPs ds) := by simp only [toP]
    rw [e1] at d1
    refine ⟨p, w, toP y, toPs ds, rfl, rfl, d1, dp_of 8 _ _ c.2 r2, by rw [← e1]; exact shaped_of (by decide) c.1 r1, shaped_of (by decide) c.2 r2, ?_⟩
    have e2 : (toPs ds).countP (fun z => PyData.eqv z (toP y)) = ds.countP fun z => deq z y := by
      rw [toPs_map, List.countP_map] <;> rfl
    rw [e2]
    exact h g H _ Ext.refl Rp.int
  · unfold fCount at h
    simp only [if_neg c] at h
    exact h.elim
end

/-! ### raise -/
/-- an own exception class -/
structure ExcC (K : PySem.W.Frag) (mg : Str → Option Value) (n : Str) : Prop where
  mg : mg n = some (.ref (He.ga K n))
  ex : PySem.W.excIn K (He.ga K n) He.veBase "ValueError.__new__" = true
  kp : PySem.W.keepIn K (.ref (He.ga K n)) = true
  sub : PySem.W.subIn K (.ref (He.ga K n)) (.type "BaseException") = some true
  ty : PySem.W.typeIn K (.ref (He.ga K n)) = some (.type "type")
section
variable {X : Cx} {K : PySem.W.Frag} {E : XK} {n m : Str} {j : Nat} {p p2 pos pos2 : Pos}
theorem pd_raise (tk : L2N.Takes X (fun cls d _ H => E cls d H)) (x : ExcC X.K X.mg n) (hc : X.calm = true := by rfl) (hg : Gl X n := by rfl) (hdb : (n == ("__debug__" : Str)) = false := by decide) (hk : X.K = K := by rfl) :
    PDS X K E (.Raise (some (.Call (.Name n p) [.Constant (.str m) j p2] [] pos)) none pos2) (fun _ σ H => E (.ref (He.ga K n)) none H) (dRaise n) := by
  subst hk
  exact ⟨rfl, L2N.ps_raise hc tk (L2N.pmk_own PySem.F.excBase_ValueError x.ex x.mg x.kp (raises_own x.sub x.ty) hg hdb), tds_raise rfl⟩
end
end Fm
/-! Fm, part 15: a dict of one's own, its keys tuples of whole numbers. -/
namespace Fm
open PySem PySem.Spec L2
open PyProof.Rows hiding St

/-! ### sorted(d) -/
def keyP (k : List Int) : PyData := .tuple (k.map .int)
def KeyAt (H : Hp) (p : VP) (k : List Int) : Prop := ∃ b, p.1 = .ref b ∧ p.2 = keyP k ∧ H b = some (.tup (k.map V.int))
def kvI (kvs : List (List Int × V)) : List (List Key × V) := kvs.map fun p => (p.1.map Sum.inl, p.2)
def rSortedK (K : PySem.W.Frag) : List V → Hp → VK → Prop := fun xs H Q => ∃ (a : Addr) (kvs : List (List Int × V)), xs = [.ref a] ∧ H a = some (.dT (kvI kvs)) ∧
  PySem.W.AllAlike (kvs.map fun p => keyP p.1) ∧ PySem.W.Sortable (kvs.map fun p => keyP p.1) ∧ kvs.length ≤ lim ∧ ∀ (bs : List VP), Paired (fun p q => KeyAt H p q.1) bs kvs → ∀ p, H p = none → Q (.ref p) (L2.upd H p (.lst ((bs.mergeSort leV).map (·.1))))
theorem dpAll_ints {K : PySem.W.Frag} {H : Hp} : ∀ k : List Int, DpAll K H (k.map V.int) (k.map PyData.int)
  | [] => .nil
  | i :: k => .cons (.int i) (dpAll_ints k)
theorem depth_key (k : List Int) : (keyP k).depth ≤ 8 := by
  unfold keyP
  rw [PyData.depth, PySem.W.depth_ints]
  omega
theorem kt_split {H : Hp} : ∀ {kvs : List (List Int × V)} {ks : List (List Key × Addr × Value)}, Paired (fun (p : List Key × V) (q : List Key × Addr × Value) => p.1 = q.1 ∧ H q.2.1 = some (.tup (p.1.map kV)) ∧ L2.RelV p.2 q.2.2) (kvI kvs) ks →
    ∃ bs : List VP, Paired (fun p q => KeyAt H p q.1) bs kvs ∧ bs.map (·.1) = ks.map fun x => V.ref x.2.1
  | [], _, r => by
    unfold kvI at r
    rw [List.map_nil] at r
    cases r
    exact ⟨[], .nil, rfl⟩
  | p :: kvs, _, r => by
    unfold kvI at r
    rw [List.map_cons] at r
    cases r with
    | @cons _ q _ qs h t =>
      obtain ⟨bs, e1, e2⟩ := kt_split (kvs := kvs) t
      obtain ⟨h1, h2, h3⟩ := h
      have e3 : (p.1.map Sum.inl : List Key).map kV = p.1.map V.int := by rw [List.map_map] <;> rfl
      rw [e3] at h2
      exact ⟨(.ref q.2.1, keyP p.1) :: bs, .cons ⟨q.2.1, rfl, rfl, h2⟩ e1, by rw [List.map_cons, List.map_cons, e2]⟩
theorem paired_snd {H : Hp} : ∀ {bs : List VP} {kvs : List (List Int × V)}, Paired (fun p q => KeyAt H p q.1) bs kvs → bs.map (·.2) = kvs.map fun p => keyP p.1
  | _, _, .nil => rfl
  | _, _, .cons h t => by
    obtain ⟨b, _, e, _⟩ := h
    rw [List.map_cons, List.map_cons, e, paired_snd t]
theorem paired_mem {H : Hp} : ∀ {bs : List VP} {kvs : List (List Int × V)}, Paired (fun p q => KeyAt H p q.1) bs kvs → ∀ p ∈ bs, ∃ k, KeyAt H p k
  | _, _, .nil => fun p hp => absurd hp (by simp)
  | _, _, .cons h t => fun p hp => by
    rcases List.mem_cons.mp hp with rfl | hp
    · exact ⟨_, h⟩
    · exact paired_mem t p hp
theorem cr_sortedK {X : Cx} (hc : X.calm = true) (hu : X.A.units + 65 < cLine) : CallR X (.builtin "sorted") (rSortedK X.K) := by
  intro pins s σ H xs us Q I r h
  obtain ⟨d, kvs, rfl, hd, hal, hk, hz, q⟩ := h
  rw [Vals.ref1 r]
  obtain ⟨z, hs, ks, pr, o, es, ep, ho, hx, hdt, he, hn⟩ := (show ObjOk X.prog X.w H s.heap d (.dT (kvI kvs)) from I.hok d _ hd)
  have l1 : es.size = ks.length := size_of_entries he
  have l2 : (kvI kvs).length = ks.length := Paired.length pr
  obtain ⟨bs, pb, eb⟩ := kt_split pr
  have e2 := paired_snd pb
  have hbl : bs.length = kvs.length := Paired.length pb
  have rv : Vals (bs.map (·.1)) (ks.map fun x => Value.ref x.2.1) := by
    rw [eb]
    have e3 : (ks.map fun x => V.ref x.2.1) = (ks.map fun x => x.2.1).map V.ref := by rw [List.map_map] <;> rfl
    have e4 : (ks.map fun x => Value.ref x.2.1) = (ks.map fun x => x.2.1).map Value.ref := by rw [List.map_map] <;> rfl
    rw [e3, e4]
    exact vals_refs _
  have hb : ∀ p ∈ bs, Dp X.K H p.1 p.2 ∧ p.2.depth ≤ 8 := fun p hp => by
    obtain ⟨k, b, h1, h2, h3⟩ := paired_mem pb p hp
    rw [h1, h2]
    exact ⟨.tup (.inl (.inl h3)) (dpAll_ints k), depth_key k⟩
  have e := rawD_of I hb rv
  refine sorted_any (R := RawD s.heap) (bs := bs) (vs := ks.map fun x => Value.ref x.2.1) (enc := fun b : VP => b.2) (fun E' Q' h => ?_) e (e.mono fun _ _ x => x.2) (by rw [e2]; exact hal) (by rw [e2]; exact hk) (by rw [hbl]; exact Nat.le_trans hz lim_le) (fun b hm => ?_) fun h1 h' tk c out kp kp2 hD hlo eo => ?_
  · refine PySem.W.kdu_collect (kdl_raw hs hx hdt) (show X.A.in1.handled = none from I.ok.hd hc) ho (by omega) fun h' tk acc' kp it => ?_
    have ea : acc'.toList = ks.map fun x => Value.ref x.2.1 := by
      have hl : acc'.toList.length = ks.length := by rw [Array.length_toList, it.1]; exact l1
      apply List.ext_getElem?
      intro j
      rw [List.getElem?_map]
      cases hj : acc'.toList[j]? with
      | none =>
        have h1 := List.getElem?_eq_none_iff.mp hj
        rw [List.getElem?_eq_none (by omega)]
        all_goals rfl
      | some v =>
        obtain ⟨en, hen, hv⟩ := it.2 j v (by rw [← Array.getElem?_toList]; exact hj)
        have qe := entry_at he j
        rw [hen] at qe
        cases hb : ks[j]? with
        | none =>
          rw [hb] at qe
          exact nomatch (show some en = none from qe)
        | some b =>
          rw [hb] at qe
          have e2 : en = entryOfKey (tupleKind (mixKind X.prog X.w)) b := Option.some.inj qe
          rw [hv, e2]
          all_goals rfl
    rw [ea]
    exact h h' tk kp
  · have := (hb b hm).2
    omega
  · have hv := vals_rawD eo
    have I1 : Inv X pins σ H { s with heap := h1, toks := s.toks } := I.kept kp
    have hl : ((bs.mergeSort leV).map (·.1)).length ≤ sizeLine := by
      rw [List.length_map, List.length_mergeSort, hbl]
      exact Nat.le_trans hz lim_le
    exact ⟨.ref _, _, I1.laid (o := .lst ((bs.mergeSort leV).map (·.1))) (t' := tk) kp2 (Nat.le_refl _) ⟨hl, out, c, hv, hD⟩, rfl, q bs pb _ (I1.hok.fresh (Nat.le_refl _))⟩
/-! ### the data -/
abbrev KD : Type := List Int × D
abbrev KDV : Type := List Int × D × V
def getKD (kvs : List KD) (k : List Int) : Option D := (kvs.find? fun p => decide (p.1 = k)).map (·.2)
def putKD (kvs : List KD) (k : List Int) (d : D) : List KD := if (kvs.any fun p => decide (p.1 = k)) = true then kvs.map (fun p => if p.1 = k then (p.1, d) else p) else kvs ++ [(k, d)]
def intsOf : List D → Option (List Int)
  | [] => some []
  | .int i :: r => (intsOf r).map (i :: ·)
  | _ => none
def keyInts : D → Option (List Int)
  | .tup ds => intsOf ds
  | _ => none
def f1 (t : KDV) : KD := (t.1, t.2.1)
def f3 (t : KDV) : List Key × V := (t.1.map Sum.inl, t.2.2)
section
variable {K : PySem.W.Frag} {E : XK} {g : G} {H : Hp}
theorem kvT_split : ∀ {kvs : List KD} {vs : List V}, RpL K g H (kvs.map (·.2)) vs → ∃ ts : List KDV, kvs = ts.map f1 ∧ vs = ts.map (·.2.2) ∧ kvT kvs vs = ts.map f3 ∧ ∀ t ∈ ts, Rp K g H t.2.1 t.2.2
  | [], vs, r => by
    simp only [List.map_nil, RpL] at r
    subst r
    exact ⟨[], rfl, rfl, rfl, fun t ht => absurd ht (by simp)⟩
  | (k, d) :: kvs, vs, r => by
    simp only [List.map_cons, RpL] at r
    obtain ⟨v, r', rfl, r1, r2⟩ := r
    obtain ⟨ts, e1, e2, e3, h⟩ := kvT_split r2
    refine ⟨(k, d, v) :: ts, by rw [e1] <;> rfl, by rw [e2] <;> rfl, ?_, fun t ht => ?_⟩
    · show (k.map Sum.inl, v) :: kvT kvs r' = _
      rw [e3] <;> rfl
    · rcases List.mem_cons.mp ht with rfl | ht
      · exact r1
      · exact h t ht
theorem kvT_join : ∀ ts : List KDV, kvT (ts.map f1) (ts.map (·.2.2)) = ts.map f3
  | [] => rfl
  | t :: ts => by
    show (t.1.map Sum.inl, t.2.2) :: kvT (ts.map f1) (ts.map (·.2.2)) = _
    rw [kvT_join ts] <;> rfl
theorem rpl_join : ∀ {ts : List KDV}, (∀ t ∈ ts, Rp K g H t.2.1 t.2.2) → RpL K g H ((ts.map f1).map (·.2)) (ts.map (·.2.2))
  | [], _ => RpL.nil
  | t :: ts, h => RpL.cons (h t List.mem_cons_self) (rpl_join fun u hu => h u (List.mem_cons_of_mem _ hu))
theorem inl_inj {k k' : List Int} (h : (k.map Sum.inl : List Key) = k'.map Sum.inl) : k = k' := by
  induction k generalizing k' with
  | nil => cases k' with
    | nil => rfl
    | cons _ _ => cases h
  | cons i k ih => cases k' with
    | nil => cases h
    | cons i' k' =>
      rw [List.map_cons, List.map_cons] at h
      injection h with h1 h2
      cases h1
      rw [ih h2]
def putT (ts : List KDV) (k : List Int) (d : D) (v : V) : List KDV := if (ts.any fun p => decide (p.1 = k)) = true then ts.map (fun p => if p.1 = k then (p.1, d, v) else p) else ts ++ [(k, d, v)]
theorem dec_inl (a k : List Int) : decide ((a.map Sum.inl : List Key) = k.map Sum.inl) = decide (a = k) := by
  by_cases h : a = k
  · rw [decide_eq_true h, decide_eq_true (by rw [h])]
  · rw [decide_eq_false h, decide_eq_false fun z => h (inl_inj z)]
theorem any_f3 (ts : List KDV) (k : List Int) : ((ts.map f3).any fun p => decide (p.1 = k.map Sum.inl)) = ts.any fun p => decide (p.1 = k) := by
  rw [List.any_map]
  congr 1
  funext p
  exact dec_inl _ _
theorem any_f1 (ts : List KDV) (k : List Int) : ((ts.map f1).any fun p => decide (p.1 = k)) = ts.any fun p => decide (p.1 = k) := by
  rw [List.any_map] <;> rfl
theorem putK_f3 (ts : List KDV) (k : List Int) (d : D) (v : V) : putK (ts.map f3) (k.map Sum.inl) v = (putT ts k d v).map f3 := by
  unfold putK putT
  rw [any_f3]
  split
  · rw [List.map_map, List.map_map]
    refine List.map_congr_left fun p _ => ?_
    show (if (p.1.map Sum.inl : List Key) = k.map Sum.inl then _ else _) = f3 (if p.1 = k then _ else _)
    by_cases h : p.1 = k
    · rw [if_pos h, if_pos (by rw [h])] <;> rfl
    · rw [if_neg h, if_neg fun z => h (inl_inj z)]
  · rw [List.map_append] <;> rfl
theorem putKD_f1 (ts : List KDV) (k : List Int) (d : D) (v : V) : putKD (ts.map f1) k d = (putT ts k d v).map f1 := by
  unfold putKD putT
  rw [any_f1]
  split
  · rw [List.map_map, List.map_map]
    refine List.map_congr_left fun p _ => ?_
    show (if p.1 = k then _ else _) = f1 (if p.1 = k then _ else _)
    by_cases h : p.1 = k
    · rw [if_pos h, if_pos h] <;> rfl
    · rw [if_neg h, if_neg h]
  · rw [List.map_append] <;> rfl
theorem putT_rp {ts : List KDV} {k : List Int} {d : D} {v : V} (h : ∀ t ∈ ts, Rp K g H t.2.1 t.2.2) (hv : Rp K g H d v) : ∀ t ∈ putT ts k d v, Rp K g H t.2.1 t.2.2 := by
  unfold putT
  split
  · intro t ht
    obtain ⟨p, hp, rfl⟩ := List.mem_map.mp ht
    show Rp K g H (if p.1 = k then (p.1, d, v) else p).2.1 (if p.1 = k then (p.1, d, v) else p).2.2
    split
    · exact hv
    · exact h p hp
  · intro t ht
    rcases List.mem_append.mp ht with ht | ht
    · exact h t ht
    · rw [List.mem_singleton.mp ht]
      exact hv
theorem putT_len (ts : List KDV) (k : List Int) (d : D) (v : V) : (putT ts k d v).length ≤ ts.length + 1 := by
  unfold putT
  split
  · rw [List.length_map]; omega
  · rw [List.length_append] <;> exact Nat.le_refl _
theorem get_f (ts : List KDV) (k : List Int) {d : D} (h : getKD (ts.map f1) k = some d) : ∃ v, valV (ts.map f3) (k.map Sum.inl) = some v ∧ ∃ t ∈ ts, t.2.1 = d ∧ t.2.2 = v := by
  induction ts with
  | nil => cases h
  | cons t ts ih =>
    unfold getKD at h
    rw [List.map_cons, List.find?_cons] at h
    by_cases c : t.1 = k
    · have e1 : decide ((f1 t).1 = k) = true := decide_eq_true c
      rw [e1] at h
      have h' : some t.2.1 = some d := h
      refine ⟨t.2.2, ?_, t, List.mem_cons_self, Option.some.inj h', rfl⟩
      rw [List.map_cons]
      exact valV_pos (p := f3 t) (by show (t.1.map Sum.inl : List Key) = _; rw [c])
    · have e1 : decide ((f1 t).1 = k) = false := decide_eq_false c
      rw [e1] at h
      obtain ⟨v, h1, t', ht', h2⟩ := ih h
      refine ⟨v, ?_, t', List.mem_cons_of_mem _ ht', h2⟩
      rw [List.map_cons]
      rw [valV_neg (p := f3 t) (fun z => c (inl_inj z))]
      exact h1
theorem ints_rp : ∀ {ds : List D} {vs : List V} {k : List Int}, intsOf ds = some k → RpL K g H ds vs → vs = k.map V.int
  | [], vs, k, e, r => by
    cases e
    simp only [RpL] at r
    exact r
  | .int i :: ds, vs, k, e, r => by
    simp only [RpL] at r
    obtain ⟨v, r', rfl, r1, r2⟩ := r
    unfold intsOf at e
    obtain ⟨k', e1, rfl⟩ := Option.map_eq_some_iff.mp e
    rw [ints_rp e1 r2, r1.int_inv] <;> rfl
theorem key_rp {d : D} {v : V} {k : List Int} (e : keyInts d = some k) (r : Rp K g H d v) : ∃ b, v = .ref b ∧ H b = some (.tup ((k.map Sum.inl : List Key).map kV)) := by
  cases d with
  | tup ds =>
    obtain ⟨b, ws, rfl, q, rl, _⟩ := r.tup_at
    have e1 := ints_rp e rl
    subst e1
    have e3 : (k.map Sum.inl : List Key).map kV = k.map V.int := by rw [List.map_map] <;> rfl
    exact ⟨b, rfl, by rw [e3]; exact q⟩
  | _ => cases e
theorem Sl.dct {ρ : Env1} {σ : L2.St} (S : Sl K g H ρ σ) {i : Nat} {kvs : List KD} (e : ρ[i]? = some (.dct kvs)) :
    σ[i]? = some (some (.ref (g.adr (.slot i)))) ∧ g.own (g.adr (.slot i)) = some (.slot i) ∧ ∃ ts : List KDV, kvs = ts.map f1 ∧ H (g.adr (.slot i)) = some (.dT (ts.map f3)) ∧ (∀ t ∈ ts, Rp K g H t.2.1 t.2.2) ∧ ts.length ≤ lim := by
  obtain ⟨o, q, rfl, w, vs, hh, r, z⟩ := S.2 i _ e
  obtain ⟨ts, e1, e2, e3, h⟩ := kvT_split r
  rw [e3] at hh
  rw [e1, List.length_map] at z
  exact ⟨q, w, ts, e1, hh, h, z⟩
theorem dct_of {α : Type} {s : Option Slot} {f : List KD → α} {b : α} {P : α → Prop} (hb : ¬ P b) (h : P (match s with | some (.dct ds) => f ds | _ => b)) : ∃ ds, s = some (.dct ds) ∧ P (f ds) := by
  cases s with
  | none => exact absurd h hb
  | some t =>
    cases t with
    | dct ds => exact ⟨ds, rfl, h⟩
    | _ => exact absurd h hb
/-- d[k] -/
def dDctIx (i : Nat) (db : DE) : DE := fun ρ Ω => match ρ[i]? with
  | some (.dct kvs) => (db ρ Ω).bind fun y Ω1 => match keyInts y with
    | some k => lift (getKD kvs k) Ω1
    | none => .bad
  | _ => .bad
theorem td_dctIx {i : Nat} {tb : TE} {db : DE} (hb : TD K E tb db) : TD K E (tDGet (tVar i) tb) (dDctIx i db) := fun g H Ω ρ σ Q S O h => by
  unfold dDctIx at h
  obtain ⟨kvs, q, h⟩ := dct_of (b := Res.bad) (P := Pst K E g H (Rp K) Q) (fun z => z) h
  obtain ⟨hv, _⟩ := S.dct q
  refine ⟨_, hv, hb g H Ω ρ σ _ S O (Pst.bind h fun y Ω1 g1 H1 w f1' O1 r1 h1 => ?_)⟩
  have S1 := S.fr f1'
  obtain ⟨hv1, hw1, ts, e1, hh, hr, hz⟩ := S1.dct q
  have ea : g1.adr (.slot i) = g.adr (.slot i) := f1'.slot i
  cases e2 : keyInts y with
  | none => rw [e2] at h1; exact h1.elim
  | some k =>
    rw [e2] at h1
    have h2 := Pst.pure O1 h1
    cases e3 : getKD kvs k with
    | none => rw [e3] at h2; exact h2.elim
    | some d =>
      rw [e3] at h2
      rw [e1] at e3
      obtain ⟨v, h4, t, ht, rfl, rfl⟩ := get_f ts k e3
      obtain ⟨b, rfl, hb2⟩ := key_rp e2 r1
      refine ⟨_, t.2.2, rfl, ?_, h2 g1 H1 _ Ext.refl (hr t ht)⟩
      rw [← ea, ← h4]
      exact DGet.t hh hb2
/-- sorted(d) -/
def keyDs (kvs : List KD) : List D := kvs.map fun p => .tup (p.1.map .int)
def dSortDct (i : Nat) : DE := fun ρ Ω => match ρ[i]? with
  | some (.dct kvs) => if (sortOk (keyDs kvs) && kvs.all fun p => decide (p.1.length ≤ lim)) = true then .ok (.lst ((keyDs kvs).mergeSort leP)) Ω else .bad
  | _ => .bad
theorem toP_key (k : List Int) : toP (.tup (k.map .int)) = keyP k := by
  simp only [toP, toPs_map, List.map_map, keyP]
  rfl
def tSortDct (K : PySem.W.Frag) (i : Nat) : TE := tCB (rSortedK K) (tCons (tVar i) tNil)
theorem rpl_ints (k : List Int) : RpL K g H (k.map D.int) (k.map V.int) := by
  induction k with
  | nil => exact RpL.nil
  | cons i k ih => exact RpL.cons Rp.int ih
def toKV (ts : List KDV) : List (List Int × V) := ts.map fun t => (t.1, t.2.2)
theorem kvI_toKV (ts : List KDV) : kvI (toKV ts) = ts.map f3 := by
  unfold kvI toKV
  rw [List.map_map] <;> rfl
theorem rp_keys : ∀ {bs : List VP} {ts : List KDV}, Paired (fun p q => KeyAt H p q.1) bs (toKV ts) → (∀ t ∈ ts, t.1.length ≤ lim) → ∃ us : List DV, us.map (·.1) = keyDs (ts.map f1) ∧ bs = us.map (fun t => (t.2, toP t.1)) ∧ ∀ t ∈ us, Rp K g H t.1 t.2
  | bs, [], h, _ => by
    unfold toKV at h
    rw [List.map_nil] at h
    cases h
    exact ⟨[], rfl, rfl, fun t ht => absurd ht (by simp)⟩
  | bs, t :: ts, h, hl => by
    unfold toKV at h
    rw [List.map_cons] at h
    cases h with
    | @cons p _ bs _ h1 h2 =>
      obtain ⟨us, e1, e2, e3⟩ := rp_keys (ts := ts) h2 fun u hu => hl u (List.mem_cons_of_mem _ hu)
      obtain ⟨b, k1, k2, k3⟩ := h1
      refine ⟨(.tup (t.1.map .int), .ref b) :: us, ?_, ?_, fun u hu => ?_⟩
      · show _ :: us.map (·.1) = _
        rw [e1] <;> rfl
      · rw [List.map_cons, ← e2, toP_key]
        have : p = (p.1, p.2) := rfl
        rw [this, k1, k2]
      · rcases List.mem_cons.mp hu with rfl | hu
        · simp only [Rp]
          exact ⟨b, _, rfl, k3, rpl_ints _, by rw [List.length_map]; exact hl t List.mem_cons_self⟩
        · exact e3 u hu
theorem td_sortDct {i : Nat} : TD K E (tSortDct K i) (dSortDct i) := fun g H Ω ρ σ Q S O h => by
  unfold dSortDct at h
  obtain ⟨kvs, q, h⟩ := dct_of (b := Res.bad) (P := Pst K E g H (Rp K) Q) (fun z => z) h
  obtain ⟨hv, hw, ts, rfl, hh, hr, hz⟩ := S.dct q
  by_cases c : (sortOk (keyDs (ts.map f1)) && (ts.map f1).all fun p => decide (p.1.length ≤ lim)) = true
  · rw [if_pos c] at h
    obtain ⟨c, hlen⟩ := Bool.and_eq_true_iff.mp c
    have hl : ∀ t ∈ ts, t.1.length ≤ lim := fun t ht => of_decide_eq_true (List.all_eq_true.mp hlen (f1 t) (List.mem_map.mpr ⟨t, ht, rfl⟩))
    unfold sortOk at c
    rw [Bool.and_eq_true, Bool.and_eq_true] at c
    obtain ⟨⟨c1, c2⟩, c3⟩ := c
    have e2 : (toKV ts).map (fun p => keyP p.1) = (keyDs (ts.map f1)).map toP := by
      unfold toKV keyDs
      rw [List.map_map, List.map_map, List.map_map]
      refine List.map_congr_left fun t _ => ?_
      exact (toP_key t.1).symm
    refine ⟨_, hv, _, toKV ts, rfl, by rw [kvI_toKV]; exact hh, ?_, ?_, by unfold toKV; rw [List.length_map]; exact hz, fun bs pb p hp => ?_⟩
    · rw [e2]
      intro p hp p' hp'
      obtain ⟨d, hd, rfl⟩ := List.mem_map.mp hp
      obtain ⟨d', hd', rfl⟩ := List.mem_map.mp hp'
      exact List.all_eq_true.mp (List.all_eq_true.mp c2 d hd) d' hd'
    · rw [e2]
      exact sortable_of c3
    · obtain ⟨us, e3, rfl, hus⟩ := rp_keys (K := K) (g := g) pb hl
      have s1 : (us.map fun t : DV => ((t.2, toP t.1) : VP)).mergeSort leV = (us.mergeSort fun t u => leP t.1 u.1).map fun t => (t.2, toP t.1) := (List.map_mergeSort (r := fun t u : DV => leP t.1 u.1) (s := leV) (f := fun t : DV => ((t.2, toP t.1) : VP)) fun _ _ _ _ => rfl).symm
      have s2 : (us.map (·.1)).mergeSort leP = (us.mergeSort fun t u => leP t.1 u.1).map (·.1) := (List.map_mergeSort (r := fun t u : DV => leP t.1 u.1) (s := leP) (f := fun t : DV => t.1) fun _ _ _ _ => rfl).symm
      rw [← e3, s2] at h
      rw [s1, List.map_map]
      have hul : us.length = ts.length := by
        have := congrArg List.length e3
        simpa [keyDs] using this
      exact mkLst (Q := Q) (RpL.ofPairs fun t ht => hus t (List.mem_mergeSort.mp ht)) (by rw [List.length_map, List.length_mergeSort, hul]; exact hz) (fun g' H' b e r => h g' H' b e.fr (O.ext e) r) p hp
  · rw [if_neg c] at h
    exact h.elim
/-- x = {} -/
def dNewDct (i : Nat) : DS := fun ρ Ω => if i < ρ.length then .nx (ρ.set i (.dct [])) Ω else .bad
theorem tds_newDct {i : Nat} : TDS K E (tAsg tDNewT (gName i)) (dNewDct i) := fun g0 H0 g H Ω ρ σ D s h => by
  unfold dNewDct at h
  by_cases c : i < ρ.length
  · rw [if_pos c] at h
    intro p hp
    refine h (g.slot i p) (L2.upd H p (.dT [])) _ (gst_slot hp) (sr_slot s hp c ⟨by rw [G.slot_adr], by rw [G.slot_adr, G.slot_own], [], by rw [G.slot_adr, upd_same] <;> rfl, RpL.nil, by simp⟩)
  · rw [if_neg c] at h
    exact h.elim
theorem ndct {xs : List (List Key × V)} : (∀ ys, HO.dT xs ≠ .tup ys) ∧ ∀ x u, HO.dT xs ≠ .frz x u := ⟨(fun _ z => by cases z), (fun _ _ z => by cases z)⟩
/-- x[k] = e -/
def dSetDct (i : Nat) (de : DE) (dk : DE) : DS := fun ρ Ω => match ρ[i]? with
  | some (.dct kvs) => (de ρ Ω).fl fun d Ω1 => (dk ρ Ω1).fl fun y Ω2 => match keyInts y with
    | some k => if kvs.length < lim then .nx (ρ.set i (.dct (putKD kvs k d))) Ω2 else .bad
    | none => .bad
  | _ => .bad
theorem tds_setDct {i : Nat} {te tk : TE} {de dk : DE} (h1 : TD K E te de) (h2 : TD K E tk dk) : TDS K E (sDPut (tVar i) tk te) (dSetDct i de dk) := fun g0 H0 g H Ω ρ σ D s h => by
  unfold dSetDct at h
  obtain ⟨kvs, q, h⟩ := dct_of (b := Fl.bad) (P := PstS K E g0 H0 g H D) (fun z => z) h
  refine h1 g H Ω ρ σ _ s.sl s.ob (PstS.bind s.fe h fun x Ω1 g1 H1 v f1' o1 r1 h'' => ?_)
  have s1 := s.fr f1' o1
  obtain ⟨hv1, _⟩ := s1.sl.dct q
  refine ⟨_, hv1, ?_⟩
  refine h2 g1 H1 Ω1 ρ σ _ s1.sl s1.ob (PstS.bind s1.fe h'' fun y Ω2 g2 H2 w f2 o2 r2 h3 => ?_)
  cases e : keyInts y with
  | none => rw [e] at h3; exact h3.elim
  | some k =>
    rw [e] at h3
    by_cases c : kvs.length < lim
    · rw [show (match some k with | some k => if kvs.length < lim then Fl.nx (ρ.set i (.dct (putKD kvs k x))) Ω2 else Fl.bad | none => Fl.bad) = if kvs.length < lim then Fl.nx (ρ.set i (.dct (putKD kvs k x))) Ω2 else Fl.bad from rfl, if_pos c] at h3
      have s2 := s1.fr f2 o2
      obtain ⟨hv2, hw2, ts, rfl, hh2, hr2, hz2⟩ := s2.sl.dct q
      obtain ⟨b, rfl, hb⟩ := key_rp e r2
      have ea : g2.adr (.slot i) = g1.adr (.slot i) := f2.slot i
      rw [← ea]
      rw [List.length_map] at c
      have rx : Rp K g2 H2 x v := Rp.step f2.toGSt _ _ r1
      refine ⟨_, _, rfl, DPut.t hh2 hb (by rw [List.length_map]; exact Nat.lt_trans c lim_lt), ?_⟩
      rw [putK_f3 ts k x v]
      rw [putKD_f1 ts k x v] at h3
      have f3' : GSt g2 H2 g2 (L2.upd H2 (g2.adr (.slot i)) (.dT ((putT ts k x v).map f3))) := GSt.upd hh2 ndct hw2 fun z => nomatch z
      obtain ⟨f4, s4⟩ := sr_upd s2 q rfl hh2 hw2 hv2 ndct (o' := .dT ((putT ts k x v).map f3)) (t := .dct ((putT ts k x v).map f1)) ⟨rfl, hw2, (putT ts k x v).map (·.2.2), by rw [kvT_join, upd_same], RpL.step f3' _ _ (rpl_join (putT_rp hr2 rx)), by rw [List.length_map]; have := putT_len ts k x v; omega⟩
      exact h3 g2 _ σ f4 s4
    · rw [show (match some k with | some k => if kvs.length < lim then Fl.nx (ρ.set i (.dct (putKD kvs k x))) Ω2 else Fl.bad | none => Fl.bad) = if kvs.length < lim then Fl.nx (ρ.set i (.dct (putKD kvs k x))) Ω2 else Fl.bad from rfl, if_neg c] at h3
      exact h3.elim
end
section
variable {X : Cx} {K : PySem.W.Frag} {E : XK} {x : Str} {e b : Expr} {es : List Expr} {te tb : TE} {de db : DE} {tas : TA} {das : DA} {pos p p1 p2 p3 p4 : Pos} {k : Nat}
theorem pd_newDct (i : Nat) (hN : X.N.Nodup) (hk : X.K = K := by rfl) (hi : X.N[i]? = some x := by rfl) (hx : Loc X.env.scope x := by first | exact Or.inl rfl | exact Or.inr rfl) (hs : swapsWith (.Dict [] [] p3) (some (.Name x p2)) pos.line X.env = pure false := by rfl) (hf : X.fn x = true ∨ X.env.scope.names.lookup x = some .local := by first | exact .inl rfl | exact .inr rfl) :
    PDS X K E (.Assign [.Name x p2] (.Dict [] [] p3) pos) (tAsg tDNewT (gName i)) (dNewDct i) := ⟨hk, ps_set hN hi hx pe_dnewT hs hf, tds_newDct⟩
theorem pd_setDct (i : Nat) (hu : X.A.units + 65 < cLine) (h : PD X K E e te de) (hj : PDA X K E es tas das) (hN : X.N[i]? = some x := by rfl) (hv : Vis X.env.scope x := by first | exact Or.inl rfl | exact Or.inr (Or.inl rfl) | exact Or.inr (Or.inr rfl)) (hd : (x == ("__debug__" : Str)) = false := by decide)
    (hcd : (x == ("__classdict__" : Str)) = false := by decide) (hs : swapsWith e (some (.Subscript (.Name x p2) (.Tuple es k p4) p3)) pos.line X.env = pure false := by rfl) :
    PDS X K E (.Assign [.Subscript (.Name x p2) (.Tuple es k p4) p3] e pos) (sDPut (tVar i) (tTup tas) te) (dSetDct i de (dTup das)) := by
  obtain ⟨k', pe, td⟩ := h
  subst k'
  exact ⟨rfl, ps_dput (by omega) (pe_var hN hv hd hcd) (pe_tup hj.pa) pe hs, tds_setDct td (td_tup hj.td)⟩
theorem pd_dctIx (i : Nat) (hu : X.A.units + 65 < cLine) (hb : PD X K E b tb db) (hs : NoSl b := by exact fun _ _ => rfl) (hN : X.N[i]? = some x := by rfl) (hv : Vis X.env.scope x := by first | exact Or.inl rfl | exact Or.inr (Or.inl rfl) | exact Or.inr (Or.inr rfl)) (hd : (x == ("__debug__" : Str)) = false := by decide)
    (hcd : (x == ("__classdict__" : Str)) = false := by decide) : PD X K E (.Subscript (.Name x p2) b pos) (tDGet (tVar i) tb) (dDctIx i db) := by
  obtain ⟨k', pe, td⟩ := hb
  subst k'
  exact ⟨rfl, pe_dget (by omega) (pe_var hN hv hd hcd) pe hs, td_dctIx td⟩
theorem pd_sortDct (i : Nat) (hc : X.calm = true) (hu : X.A.units + 65 < cLine) (hm : X.mg "sorted" = none) (hk : X.K = K := by rfl) (hg : Gl X "sorted" := by rfl) (hN : X.N[i]? = some x := by rfl) (hv : Vis X.env.scope x := by first | exact Or.inl rfl | exact Or.inr (Or.inl rfl) | exact Or.inr (Or.inr rfl)) (hd : (x == ("__debug__" : Str)) = false := by decide)
    (hcd : (x == ("__classdict__" : Str)) = false := by decide) (hst : starEach [.Name x p2] X.env = (false, eval (.Name x p2) X.env) :: starEach [] X.env := by rfl) (hpl : (backTo pos (starEach [] X.env)).any (·.1) = false := by rfl) :
    PD X K E (.Call (.Name "sorted" p) [.Name x p2] [] pos) (tSortDct K i) (dSortDct i) := by
  subst hk
  exact ⟨rfl, pe_callB (cr_sortedK hc hu) hg hm (by decide +kernel) (pa_cons (pe_var hN hv hd hcd) pa_nil hst) (by decide) (by decide) hst hpl, td_sortDct⟩
end
end Fm
/-! Fm, part 16: a def that makes a lambda; a def that calls itself. -/
namespace Fm
open PySem PySem.Spec L2
open PyProof.Rows hiding St

section
variable {K : PySem.W.Frag} {E : XK} {n : Nat}
/-- a def by its body; its code object is the one that K tells of -/
theorem def_okT {P : Program} {w : World} {mg : Str → Option Value} {base : Heap} {k : Nat} {nm qual : Str} {params : Arguments} {body : List Stmt} {scope : Scope} {f : Addr} {fd : FuncData} {N ps : List Str} {db : DS} (p : He.Defn) (hf : f = He.fAd K p)
    (F : FunD K nm qual params body scope [] [] f fd) (S : FnScope N ps scope) (hn : ps.length = n)
    (hb : ∀ (cdv : Value) (A : Around) (outer : List Env) (s : Shared) (H : Hp) (E : XK), cdv = .ref (He.cT K p).1 → Room k (A.deeper (envOfC qual scope s.heap.objs.size f cdv)) → Passes (L2N.CX P w) (cxOf (L2N.CX P w) P w K mg base N qual scope f cdv A outer s H E) E →
      PassesOwn (model P w) (cxOf (L2N.CX P w) P w K mg base N qual scope f cdv A outer s H E).A (cxOf (L2N.CX P w) P w K mg base N qual scope f cdv A outer s H E).env (cxOf (L2N.CX P w) P w K mg base N qual scope f cdv A outer s H E).xe →
      L2N.Takes (cxOf (L2N.CX P w) P w K mg base N qual scope f cdv A outer s H E) (fun cls d _ H => E cls d H) →
      ∃ ts, PDSs (cxOf (L2N.CX P w) P w K mg base N qual scope f cdv A outer s H E) K E body ts db) : FnOk P w K mg base (L2N.CX P w) (k + 1) f fd ps (spD K n (runF db N.length n)) := by
  obtain ⟨oc, od, dV, kV, doc, pm, an, cdv, ct, osl, rfl, lk, hcd, _, _⟩ := F.ex
  obtain ⟨c, ec⟩ := He.codeIn_ref hcd
  have e1 : cdv = .ref (He.cT K p).1 := by
    rw [hf] at lk
    have := He.codeOf_eq lk ec
    rw [ec]
    show Value.ref c = Value.ref (He.codeOf K p)
    rw [this]
  refine fn_of lk hcd S (spD.len hn) fun A outer s H vs Q E hr h => ?_
  have tk : L2N.Takes (cxOf (L2N.CX P w) P w K mg base N qual scope f cdv A outer s H E) (fun cls d _ H => E cls d H) := L2N.takes_of rfl rfl rfl rfl
  obtain ⟨ts, o⟩ := hb cdv A outer s H E e1 hr (L2N.passes_call tk fun _ _ _ _ h => h) (passes_of rfl) tk
  exact ⟨ts, o.ps, spD_body o.td h⟩
/-- nothing is promised -/
theorem def_bad {P : Program} {w : World} {mg : Str → Option Value} {base : Heap} {k : Nat} {nm qual : Str} {params : Arguments} {body : List Stmt} {scope : Scope} {f : Addr} {fd : FuncData} {N ps : List Str}
    (F : FunD K nm qual params body scope [] [] f fd) (S : FnScope N ps scope) (hn : ps.length = n) : FnOk P w K mg base (L2N.CX P w) (k + 1) f fd ps (spD K n (fun _ _ => .bad)) := by
  refine F.ok S (spD.len hn) fun cdv A outer s H vs Q E hr h => ?_
  obtain ⟨_, _, _, _, _, _, z⟩ := h
  exact (show False from z).elim
end
/-! ### x == [], x an own list -/
def dOwnNil (dq : DI) : DE := fun ρ Ω => (dq ρ Ω).bind fun ds Ω1 => if (ds.all fun d => sh 7 d) = true then .ok (.bl ds.isEmpty) Ω1 else .bad
section
variable {K : PySem.W.Frag} {E : XK} {X : Cx} {x : Str} {p1 p2 pos : Pos} {k : Nat}
theorem td_ownNil {i : Nat} : TD K E (tOp (rEqD K) (tVar i) (tLst tNil)) (dOwnNil (dOwn i)) := fun g H Ω ρ σ Q S O h =>
  tdq_own (K := K) (E := E) i g H Ω ρ σ _ S O (Pst.bind h fun ds Ω1 g1 H1 v f1 O1 r1 q => by
    by_cases c : (ds.all fun d => sh 7 d) = true
    · rw [if_pos c] at q
      refine ⟨by show 0 ≤ sizeLine; exact Nat.zero_le _, fun p hp => ?_⟩
      have f2 : Ext g1 H1 g1 (L2.upd H1 p (.lst [])) := Ext.new hp
      obtain ⟨a, vs, rfl, q1, rl, z⟩ := r1.fr f2.fr
      have d1 : Dp K (L2.upd H1 p (.lst [])) (.ref a) (.list (toPs ds)) := .lst (SqL.of q1.1) (dps_of 7 ds vs c rl)
      have d2 : Dp K (L2.upd H1 p (.lst [])) (.ref p) (.list []) := .lst (SqL.of upd_same) .nil
      have sh1 : SeqAt.shaped (.list (toPs ds)) = true := by
        show (PyData.canLay0 (.list (toPs ds)) && decide ((PyData.list (toPs ds)).depth ≤ 64)) = true
        have e1 : PyData.canLay0 (.list (toPs ds)) = true := by
          simp only [PyData.canLay0]
          exact lays_of 7 ds vs c rl
        rw [e1, Bool.true_and]
        refine decide_eq_true ?_
        have := depths_of 7 ds c
        simp only [PyData.depth]
        omega
      refine ⟨.list (toPs ds), .list [], d1, d2, sh1, by rfl, ?_⟩
      have e2 : PyData.eqv (.list (toPs ds)) (.list []) = ds.isEmpty := by
        cases ds with
        | nil => rfl
        | cons d r => simp only [toPs]; rfl
      rw [e2]
      exact q g1 _ _ f2.fr (O1.ext f2) Rp.bl
    · rw [if_neg c] at q
      exact q.elim)
theorem pd_ownNil (i : Nat) (hu : X.A.units + 65 < cLine) (hk : X.K = K := by rfl) (hN : X.N[i]? = some x := by rfl) (hv : Vis X.env.scope x := by first | exact Or.inl rfl | exact Or.inr (Or.inl rfl) | exact Or.inr (Or.inr rfl)) (hd : (x == ("__debug__" : Str)) = false := by decide)
    (hcd : (x == ("__classdict__" : Str)) = false := by decide) (hm : behindInMarks .Eq (.List [] p2) = false := by first | exact nomark _ | rfl) :
    PD X K E (.Compare (.Name x p1) [.Eq] [.List [] p2] pos) (tOp (rEqD K) (tVar i) (tLst tNil)) (dOwnNil (dOwn i)) := by
  subst hk
  exact ⟨rfl, pe_cmpR (op_eqD (by omega)) (pe_var hN hv hd hcd) (pe_lst pa_nil) hm, td_ownNil⟩
end
end Fm
/-! Fm, part 17: the start of a law's call, exceptions that none lets out. -/
namespace Fm
open PySem PySem.Spec L2
open PyProof.Rows hiding St

theorem exc_of {K : PySem.W.Frag} {h : Heap} {mg : Str → Option Value} {x : Str} (X : K.In h) (G : h.Ns mainGlobals mg) (h1 : (He.Fa.glo x).ok K = true) (h2 : (He.Fa.exc x).ok K = true) : ExcC K mg x := by
  have e : (PySem.W.excIn K (He.ga K x) He.veBase "ValueError.__new__" && (PySem.W.keepIn K (.ref (He.ga K x)) && (decide (PySem.W.subIn K (.ref (He.ga K x)) (.type "BaseException") = some true) && decide (PySem.W.typeIn K (.ref (He.ga K x)) = some (.type "type"))))) = true := h2
  simp only [Bool.and_eq_true, decide_eq_true_eq] at e
  exact ⟨He.glo_ok X G h1, e.1, e.2.1, e.2.2.1, e.2.2.2⟩
theorem cx_none {P : Program} {w : World} {H : Hp} {s : Shared} {e : Value} {s' : Shared} (z : L2N.CX P w [] H s (fun _ _ _ => False) e s') : False := by
  obtain ⟨_, _, _, _, _, _, _, _, _, _, _, _, z⟩ := z
  exact z.elim
def g0 (t : Addr) : G := { own := fun b => if b = t then some (.obj 0) else some .lock, adr := fun _ => t }
def g1 : G := { own := fun _ => some .lock, adr := fun _ => 0 }
theorem scl_of {K : PySem.W.Frag} {g : G} {H : Hp} {a : Addr} {ns : List Int} (hS : SqL K H a (ns.map V.int)) (hl : H a = some (.lst (ns.map V.int)) → g.own a = some .lock) : Rp K g H (.scr ns) (.ref a) := by
  simp only [Rp]
  refine ⟨a, rfl, ?_⟩
  rcases hS with (h | ⟨o, h⟩) | h
  · exact .inl ⟨h, hl h⟩
  · exact .inr (.inl ⟨o, h⟩)
  · exact .inr (.inr fun H' => .inr h)
theorem start_tab {K : PySem.W.Frag} {H : Hp} {a : Addr} {ns : List Int} {F : List D → Om → Res D} {Ω : Om} (hT : H (He.cT K ("all_marks", none)).2 = some (.tbl #[])) (hS : SqL K H a (ns.map V.int)) (hF : ∃ Ω', F [.scr ns] [.tab] = .ok (.bl true) Ω') (hΩ : Ω = [.tab] := by rfl) :
    spD K 1 F [.ref a] H (fun v _ => v = .bl true) fun _ _ _ => False := by
  obtain ⟨Ω', e⟩ := hF
  refine ⟨g0 (lamTab K), [.tab], [.scr ns], rfl, RpL.cons (scl_of hS fun h => ?_) RpL.nil, ⟨fun i o q => ?_, fun a i q => ?_⟩, ?_⟩
  · show (if a = lamTab K then _ else _) = _
    rw [if_neg]
    intro z
    rw [z, show H (lamTab K) = some (.tbl #[]) from hT] at h
    cases h
  · cases i with
    | zero =>
      cases q
      refine ⟨if_pos rfl, rfl, #[], hT, True.intro, fun pos cv z => ?_⟩
      have z' : codeAmong pos [] = some cv := z
      simp [codeAmong] at z'
    | succ i => simp at q
  · have q' : (if a = lamTab K then some (Own.obj 0) else some .lock) = some (.obj i) := q
    by_cases c : a = lamTab K
    · rw [if_pos c] at q'
      cases q'
      exact Nat.zero_lt_one
    · rw [if_neg c] at q'
      cases q'
  · rw [e]
    intro g' H' b _ _ r
    exact r.bl_inv
theorem start_none {K : PySem.W.Frag} {H : Hp} {a : Addr} {ns : List Int} {F : List D → Om → Res D} {Ω : Om} (hS : SqL K H a (ns.map V.int)) (hF : ∃ Ω', F [.scr ns] [] = .ok (.bl true) Ω') (hΩ : Ω = [] := by rfl) :
    spD K 1 F [.ref a] H (fun v _ => v = .bl true) fun _ _ _ => False := by
  obtain ⟨Ω', e⟩ := hF
  refine ⟨g1, [], [.scr ns], rfl, RpL.cons (scl_of hS fun _ => rfl) RpL.nil, ⟨fun i o q => ?_, fun a i q => ?_⟩, ?_⟩
  · simp at q
  · cases q
  · rw [e]
    intro g' H' b _ _ r
    exact r.bl_inv
end Fm
/-! Fm, part 19: isinstance of a pinned exception; the tries. -/
namespace Fm
open PySem PySem.Spec L2
open PyProof.Rows hiding St
/-- isinstance(e, c) wherever e's object is pinned -/
theorem call_isP {X : Cx} {D : Addr} {p : Addr × Obj} (C : L2.ExcC X.K D) (hz : Zc (.ref D) none p.2) (hf : ∃ vs, p.2.data = .fields vs) (hp : p ∈ X.pn) : CallR X (.builtin "isinstance") (rIsE X.K D p.1) := by
  intro pins s σ H xs us Q I r h
  obtain ⟨c, cv, b, rfl, hcv, e, q⟩ := h
  cases r with
  | cons rx rr => cases rr with
    | cons rt rr =>
      cases rr
      cases rx
      have ec := hcv _ rt
      subst ec
      obtain ⟨hget, _⟩ := I.pin p (List.mem_append.mpr (.inl hp))
      obtain ⟨vs, hv⟩ := hf
      have J : PySem.W.InstAt s.heap p.1 p.2 D none := by
        obtain ⟨pa, oc, od, oda, osl⟩ := p
        obtain ⟨h1, h2⟩ := hz
        dsimp only at h1 h2 hv
        subst h1 h2 hv
        exact ⟨hget, rfl, rfl, trivial⟩
      have K1 := PySem.W.handS_kitx_exc (x := p.1) (ox := p.2) C.hg C.hk C.hs C.hd C.ha C.hn C.ht C.hm
      exact PySem.W.kia_one K1 I.kIn J e (fun z => nomatch z) fun tk => ⟨.bl b, H, I.kept (t' := tk) fun _ _ z => z, rfl, q⟩
section
variable {X : Cx} {K : PySem.W.Frag} {E : XK} {i : Nat} {a : Addr} {b : Bool} {n x : Str} {p p1 p2 pos : Pos}
/-- isinstance(e, C), e a kept exception -/
def dIsE (i : Nat) (a : Addr) (b : Bool) : DE := fun ρ Ω => match ρ[i]? with
  | some (.raw c) => if c = a then .ok (.bl b) Ω else .bad
  | _ => .bad
theorem td_isE {D : Addr} {c0 : V} {cv : Value} (hc : ∀ u, RelV c0 u → u = cv) (hk : PySem.W.kitOne K (.ref D) cv = some b) : TD K E (tCB (rIsE K D a) (tCons (tVar i) (tCons (tC c0) tNil))) (dIsE i a b) := fun g H Ω ρ σ Q S O h => by
  unfold dIsE at h
  cases q : ρ[i]? with
  | none => rw [q] at h; exact h.elim
  | some t =>
    rw [q] at h
    cases t with
    | raw c =>
      by_cases e : c = a
      · subst e
        have h : Pst K E g H (Rp K) Q (if c = c then Res.ok (.bl b) Ω else .bad) := h
        rw [if_pos rfl] at h
        obtain ⟨o, h1, rfl⟩ := S.2 i _ q
        exact ⟨_, h1, _, _, b, rfl, hc, hk, h g H _ Fr.refl O Rp.bl⟩
      · have h : Pst K E g H (Rp K) Q (if c = a then Res.ok (.bl b) Ω else .bad) := h
        rw [if_neg e] at h
        exact h.elim
    | _ => exact h.elim
theorem pd_isE {D C : Addr} {e : Expr} {q : Addr × Obj} (hm : X.mg "isinstance" = none) (pe : PE X e (tVar i)) (hmc : X.mg x = some (.ref C)) (CC : L2.ExcC X.K D) (hz : Zc (.ref D) none q.2) (hf : ∃ vs, q.2.data = .fields vs) (hp : q ∈ X.pn) (hk : PySem.W.kitOne X.K (.ref D) (.ref C) = some b) (hg : Gl X "isinstance" := by rfl) (hgc : Gl X x := by rfl) (hd : (x == ("__debug__" : Str)) = false := by decide)
    (hst : starEach [e, .Name x p2] X.env = (false, eval e X.env) :: starEach [.Name x p2] X.env := by rfl) (hpl : (backTo pos (starEach [.Name x p2] X.env)).any (·.1) = false := by rfl) :
    PD X X.K E (.Call (.Name "isinstance" p) [e, .Name x p2] [] pos) (tCB (rIsE X.K D q.1) (tCons (tVar i) (tCons (tC (.ref C)) tNil))) (dIsE i q.1 b) :=
  ⟨rfl, pe_callB (call_isP CC hz hf hp) hg hm PyProof.Rows.boot_isinstance (pa_cons pe (pa_cons (pe_glob hgc hmc rfl hd) pa_nil) (hs := hst)) (by decide) (by decide) hst hpl, td_isE (fun u r => by cases r; rfl) hk⟩
/-- .. of a built-in class -/
theorem pd_isEB {T : String} {D : Addr} {e : Expr} {q : Addr × Obj} (hm : X.mg "isinstance" = none) (pe : PE X e (tVar i)) (hmt : X.mg x = none) (CC : L2.ExcC X.K D) (hz : Zc (.ref D) none q.2) (hf : ∃ vs, q.2.data = .fields vs) (hp : q ∈ X.pn) (hk : PySem.W.kitOne X.K (.ref D) (.type T) = some b)
    (hv : bootBuiltins x = some (.type T) := by decide +kernel) (hg : Gl X "isinstance" := by rfl) (hgc : Gl X x := by rfl) (hn : x ≠ "__name__" := by decide) (hd : (x == ("__debug__" : Str)) = false := by decide)
    (hst : starEach [e, .Name x p2] X.env = (false, eval e X.env) :: starEach [.Name x p2] X.env := by rfl) (hpl : (backTo pos (starEach [.Name x p2] X.env)).any (·.1) = false := by rfl) :
    PD X X.K E (.Call (.Name "isinstance" p) [e, .Name x p2] [] pos) (tCB (rIsE X.K D q.1) (tCons (tVar i) (tCons (tC (.ty T)) tNil))) (dIsE i q.1 b) :=
  ⟨rfl, pe_callB (call_isP CC hz hf hp) hg hm PyProof.Rows.boot_isinstance (pa_cons pe (pa_cons (pe_ty hgc hmt hv hn hd) pa_nil) (hs := hst)) (by decide) (by decide) hst hpl, td_isE (fun u r => by cases r; rfl) hk⟩
end
/-! ### a def called with the caught exception -/
structure FnE (P : Program) (w : World) (K : PySem.W.Frag) (mg : Str → Option Value) (base : Heap) (CX : CXT) (k : Nat) (f : Addr) (fd : FuncData) (n : Str) (D : Addr) (sp : Addr → Hp → VK → Prop) : Prop where
  run : ∀ (A : Around) (outer : List Env) (s : Shared) (H : Hp) (args : Args) (us : List Value) (Q : VK) (E : XK) (p : Addr × Obj), L2H.RoomH k A → L2H.Hot1 A p → Zc (.ref D) none p.2 → L2H.PinOk outer H s p → Env0 P w K mg base A outer s H →
    BindsTo s fd args ([n].zip us) → Vals [V.ref p.1] us → sp p.1 H Q → codeAny (model P w) A (.call (.ref f) args) (CR CX outer P w H s Q E) s
theorem fn_ofE {CX : CXT} {P : Program} {w : World} {K : PySem.W.Frag} {mg : Str → Option Value} {base : Heap} {k : Nat} {f D : Addr} {name qual n : Str} {params : Arguments} {body : List Stmt} {scope : Scope} {dV kV doc pm cdv ct oc : Value} {an od : Option Addr} {osl : Array (Option Value)} {N : List Str} {sp : Addr → Hp → VK → Prop}
    (lk : K.lookup f = some ⟨oc, od, .func (PySem.W.fnOf name qual params body scope dV kV doc pm an cdv ct), osl⟩) (hcd : PySem.W.codeIn K cdv qual = true) (S : FnScope N [n] scope)
    (hbody : ∀ (A : Around) (outer : List Env) (s : Shared) (H : Hp) (Q : VK) (E : XK) (p : Addr × Obj), L2H.Hot1 A p → Zc (.ref D) none p.2 → L2H.RoomH k (A.deeper (envOfC qual scope s.heap.objs.size f cdv)) → sp p.1 H Q →
      ∃ t, PSs (L2H.cxH CX P w K mg base N qual scope f cdv A outer s H E p) body t ∧ t { nx := fun _ H' => Q .non H', rt := Q } (L2.start N [V.ref p.1]) H) :
    FnE P w K mg base CX (k + 1) f (PySem.W.fnOf name qual params body scope dV kV doc pm an cdv ct) n D sp := by
  refine ⟨fun A outer s H args us Q E p hr hot hz hpin e0 hb r hsp => ?_⟩
  have KX : K.In s.heap := e0.mod.kin.keeps fun b o e => (e0.bs b o e).1
  have hk : ∀ y ∈ [n].zip us, scope.names.lookup y.1 = some .local ∨ (scope.names.lookup y.1 = some .cell ∧ ((cellsFrom (s.heap.objs.size + 1) scope.names []).lookup y.1).isSome = true) := fun ⟨m, v⟩ hy => (S.par m (List.of_mem_zip hy).1).elim .inl fun q => .inr ⟨q, PySem.W.cellsFrom_some _ _ _ (.inl q)⟩
  refine codeAny_call_function hr.depth (KX _ _ lk) rfl S.co S.gen rfl (PySem.W.codeRec_of KX hcd) (hb _ _ _ _ (wpAny_newFunctionEnv_cells S.kind hk fun env he s1 x => ?_))
  subst he
  refine ⟨(e0.mod.nolimit.keeps fun b o e => (e0.bs b o e).1).keeps x.toInCall.keep, codeAny_func ?_⟩
  obtain ⟨t, ht, hq⟩ := hbody A outer s H Q E p hot hz (hr.deeper _) hsp
  refine wpAny_mono (ht.run [] s1 _ H _ (L2H.inv_startH S hpin e0 rfl r x) hq) (fun fl s' hs => ?_) fun e s' hs => hs
  cases fl with
  | ret u => exact (fun ⟨v, σ', H', J, rv, q⟩ => ⟨v, H', J.os, J.bare, J.base, J.hok, rv, q⟩ : _ → _) hs
  | next => exact (fun ⟨σ', H', J, q⟩ => ⟨.non, H', J.os, J.bare, J.base, J.hok, rfl, q⟩ : _ → _) hs
  | brk => exact hs.elim fun _ z => z.elim fun _ z => z.2.elim
  | cont => exact hs.elim fun _ z => z.elim fun _ z => z.2.elim
section
variable {X : Cx} {CX : CXT} {k : Nat} {f D : Addr} {fd : FuncData} {n x : Str} {sp : Addr → Hp → VK → Prop} {E : St → XK} {p : Addr × Obj} {i : Nat} {q pos : Pos} {e : Expr}
theorem run_fnE {pins : List (Addr × Obj)} {σ : St} {H : Hp} {s : Shared} {Q : VK} (F : FnE X.prog X.w X.K X.mg X.base CX k f fd n D sp) (hr : L2H.RoomH k X.A) (hot : L2H.Hot1 X.A p) (hz : Zc (.ref D) none p.2) (hp : p ∈ X.pn) (hb : Binds X.K fd [n] []) (hx : PassesAt CX X σ (E σ))
    (I : L2.Inv X pins σ H s) (h : sp p.1 H Q) : wpAny (model X.prog X.w) X.A (call (.ref f) [.ref p.1]) (EP X pins σ Q) X.xe s := by
  have b := hb s [.ref p.1] I.kIn rfl
  rw [List.append_nil] at b
  have P1 := I.pin p (List.mem_append_left _ hp)
  have hpin : L2H.PinOk X.stack H s p := ⟨P1.1, P1.2.1, fun hm => (List.mem_cons.mp (I.stkSub p.1 hm)).elim P1.2.2.1 P1.2.2.2.1, P1.2.2.2.2⟩
  refine wpAny_call (codeAny_mono (F.run X.A X.stack s H ⟨[.ref p.1], []⟩ [.ref p.1] Q (E σ) p hr hot hz hpin I.env0 b (.cons rfl .nil) h) fun r s' hq => ?_)
  cases r with
  | error e => exact hx pins H s e s' I hq
  | ok fl => cases fl with
    | ret u => exact I.after hq
    | _ => exact hq.elim
/-- the call of such a def, its argument the slot of the caught exception -/
def tCallE (i : Nat) (a : Addr) (sp : Addr → Hp → VK → Prop) : TE := fun σ H Q => σ[i]? = some (some (.ref a)) ∧ sp a H Q
theorem pe_callE (F : FnE X.prog X.w X.K X.mg X.base CX k f fd n D sp) (hr : L2H.RoomH k X.A) (hot : L2H.Hot1 X.A p) (hz : Zc (.ref D) none p.2) (hp : p ∈ X.pn) (hg : Gl X x) (hm : X.mg x = some (.ref f)) (hk : PySem.W.keepIn X.K (.ref f) = true) (hb : Binds X.K fd [n] []) (hx : ∀ σ, PassesAt CX X σ (E σ))
    (ha : PA X [e] (tCons (tVar i) tNil)) (hdb : (x == ("__debug__" : Str)) = false := by decide) (he : starEach [e] X.env = (false, eval e X.env) :: starEach [] X.env := by rfl) (hpl : (backTo pos (starEach [] X.env)).any (·.1) = false := by rfl) :
    PE X (.Call (.Name x q) [e] [] pos) (tCallE i p.1 sp) := by
  refine ⟨fun pins s σ H Q I h => ?_⟩
  obtain ⟨hv, h⟩ := h
  refine wpAny_Call_Name_kw (ld_glob I hg hm ?_ hdb)
  refine PySem.W.callWith_K (h₀ := X.base) I.ok.mod.kin hk (thn (ha.run pos pins s σ H (fun vs H1 => vs = [.ref p.1] ∧ H1 = H ∧ sp p.1 H Q) I ⟨_, hv, rfl, rfl, h⟩) fun us s1 ⟨vs, H1, I1, r, q⟩ => ⟨I1.kIn, ?_⟩) he hpl
  obtain ⟨rfl, rfl, q⟩ := q
  have eu : us = [.ref p.1] := Vals.ref1 r
  subst eu
  exact run_fnE F hr hot hz hp hb (hx σ) I1 q
end
end Fm
/-! Fm, part 20: the def that is called with the caught exception; try .. except X as e: return f(e). -/
namespace Fm
open PySem PySem.Spec L2
open PyProof.Rows hiding St

section
variable {K : PySem.W.Frag}
/-- what such a def promises: it tells a text, whatever the exception, changes nothing -/
def spE (K : PySem.W.Frag) (wd : List Nat) : Addr → Hp → VK → Prop := fun _ H Q => ∃ g Ω, Ob K g H Ω ∧ ∀ g' H' b, Fr g H g' H' → Ob K g' H' Ω → Rp K g' H' (.str wd) b → Q b H'
theorem sl_startE {g : G} {H : Hp} {a : Addr} {N : List Str} (hN : 1 ≤ N.length) : Sl K g H (.raw a :: List.replicate (N.length - 1) .un) (L2.start N [V.ref a]) := by
  refine ⟨by simp [L2.start], fun i s e => ?_⟩
  cases i with
  | zero =>
    cases e
    exact ⟨some (.ref a), rfl, rfl⟩
  | succ i =>
    have e' : (List.replicate (N.length - 1) Slot.un)[i]? = some s := e
    rw [List.getElem?_replicate] at e'
    split at e'
    · rename_i c
      cases e'
      refine ⟨none, ?_, trivial⟩
      show (List.replicate (N.length - 1) (none : Option V))[i]? = some none
      rw [List.getElem?_replicate, if_pos c]
    · cases e'
theorem def_okE {P : Program} {w : World} {mg : Str → Option Value} {base : Heap} {k : Nat} {nm qual n : Str} {params : Arguments} {body : List Stmt} {scope : Scope} {f D : Addr} {fd : FuncData} {N : List Str} {wd : List Nat}
    (F : FunD K nm qual params body scope [] [] f fd) (S : FnScope N [n] scope) (hN : 1 ≤ N.length)
    (hb : ∀ (cdv : Value) (A : Around) (outer : List Env) (s : Shared) (H : Hp) (E : XK) (p : Addr × Obj), Zc (.ref D) none p.2 → (∃ vs, p.2.data = .fields vs) → L2H.RoomH k (A.deeper (envOfC qual scope s.heap.objs.size f cdv)) →
      ∃ ts db, PDSs (L2H.cxH (L2N.CX P w) P w K mg base N qual scope f cdv A outer s H E p) K NoE body ts db ∧ ∀ Ω, db (.raw p.1 :: List.replicate (N.length - 1) .un) Ω = .rt (.str wd) Ω) :
    FnE P w K mg base (L2N.CX P w) (k + 1) f fd n D (spE K wd) := by
  obtain ⟨oc, od, dV, kV, doc, pm, an, cdv, ct, osl, rfl, lk, hcd, _, _⟩ := F.ex
  refine fn_ofE lk hcd S fun A outer s H Q E p hot hz hr hsp => ?_
  obtain ⟨_, vs, hv, _⟩ := hot
  obtain ⟨ts, db, o, e⟩ := hb cdv A outer s H E p hz ⟨vs, hv⟩ hr
  obtain ⟨g, Ω, ob, q⟩ := hsp
  refine ⟨ts, o.ps, o.td g H g H Ω _ _ _ ⟨sl_startE hN, ob, fun i t e1 hs => ?_, FrE.refl⟩ ?_⟩
  · exfalso
    rcases List.mem_cons.mp (List.mem_of_getElem? e1) with rfl | hm
    · cases hs
    · rw [(List.mem_replicate.mp hm).2] at hs
      cases hs
  · rw [e]
    exact fun g' H' v f' o' r' => q (g.back g') H' v f'.back (o'.gh (G.gh_back _ _)) (Rp.gh (G.gh_back _ _) _ _ r')
end
/-- the told def, for the class that the module calls c -/
structure CalE (P : Program) (w : World) (K : PySem.W.Frag) (mg : Str → Option Value) (base : Heap) (k : Nat) (x c : Str) (wd : List Nat) : Prop where
  ex : ∃ (f : Addr) (fd : FuncData) (n : Str), FnE P w K mg base (L2N.CX P w) k f fd n (He.ga K c) (spE K wd) ∧ mg x = some (.ref f) ∧ PySem.W.keepIn K (.ref f) = true ∧ Binds K fd [n] []
/-! ### the try -/
/-- the exceptions that are caught: the class's name, what is told -/
abbrev Wds := List (Str × List Nat)
def dTry (db : DS) (ws : Wds) : DS := fun ρ Ω => match db ρ Ω with
  | .exc n Ω' => match ws.lookup n with
    | some wd => .rt (.str wd) Ω'
    | none => .bad
  | r => r
/-- the suite -/
def tsTry (K : PySem.W.Frag) (i : Nat) (ws : Wds) (a : Addr) (cls : Value) (d : Option Addr) : TS := fun D σ H => ∃ c wd, (c, wd) ∈ ws ∧ cls = .ref (He.ga K c) ∧ d = none ∧ σ[i]? = some (some (.ref a)) ∧ spE K wd a H D.rt
section
variable {X : Cx} {K : PySem.W.Frag} {E : XK} {x n : Str} {i : Nat} {body : List Stmt} {np ep rp cp pos pos' : Pos} {q : Pos} {db : DS} {ws : Wds} {tsB : XK → TS} {m : Nat}
theorem ps_suite {k : Nat} {y : Str} (hc : ∀ c wd, (c, wd) ∈ ws → CalE X.prog X.w X.K X.mg X.base k y c wd) (hN : X.N[i]? = some n) (hv : Vis X.env.scope n) (hd : (n == ("__debug__" : Str)) = false) (hcd : (n == ("__classdict__" : Str)) = false)
    (hg : Gl X y) (hdb : (y == ("__debug__" : Str)) = false) (hr : Room k X.A) (a : Addr) (oe : Obj) (cls : Value) (d : Option Addr) (pn : List (Addr × Obj)) (hz : L2N.Zn cls d oe) (hf : ∃ vs, oe.data = .fields vs) :
    PSs (X.suite a ((a, oe) :: pn)) [.Return (some (.Call (.Name y q) [.Name n ep] [] cp)) rp] (tsTry X.K i ws a cls d) := by
  refine ⟨fun pins s σ H D I h => ?_⟩
  obtain ⟨c, wd, hm, rfl, rfl, hs, hsp⟩ := h
  obtain ⟨f, fd, n', G, hmg, kp, hb⟩ := (hc c wd hm).ex
  have hot : L2H.Hot1 (X.suite a ((a, oe) :: pn)).A (a, oe) := by
    obtain ⟨vs, hv⟩ := hf
    exact ⟨rfl, vs, hv, hz.2.2 vs hv⟩
  have pe : PE (X.suite a ((a, oe) :: pn)) (.Call (.Name y q) [.Name n ep] [] cp) (tCallE i a (spE X.K wd)) :=
    pe_callE (X := X.suite a ((a, oe) :: pn)) (E := fun _ => NoE) (p := (a, oe)) G ⟨hr.dp, hr.un⟩ hot hz.zc List.mem_cons_self hg hmg kp hb (fun σ pins H s e s' I c => passN pins σ H s e s' I c) (pa_cons (pe_var hN hv hd hcd) pa_nil) hdb
  exact (pss_one (ps_ret pe)).run pins s σ H D I ⟨hs, hsp⟩
theorem xe_tr {W : L2.WX} {E' : XK} {pn : List (Addr × Obj)} {xe : Value → Shared → Prop} (tk : L2N.Takes (X.tr pn xe) W) (h : ∀ c d σ H, σ.length = X.N.length → E' c d H → W c d σ H) : L2N.Takes (X.tr pn xe) (fun c d _ H => E' c d H) := fun u s' ⟨a, B, sI, pins, σ, H, cls, d, e, I, nb, up, sky, na, os, ag, w⟩ =>
  tk u s' ⟨a, B, sI, pins, σ, H, cls, d, e, I, nb, up, sky, na, os, ag, h _ _ _ _ I.len w⟩
/-- what the body's exceptions must come to -/
def eTry (X : Cx) (c : Value) (i : Nat) (ts : Addr → Value → Option Addr → TS) (W : L2.WX) (D : Ends) : XK := fun cls d H => ∀ σ', σ'.length = X.N.length → wAs X.K c i ts W D cls d σ' H
theorem pds_try {k : Nat} {y : Str} (hb : ∀ (E' : XK) (pn : List (Addr × Obj)) (xe : Value → Shared → Prop), Passes (L2N.CX X.prog X.w) (X.tr pn xe) E' → PassesOwn (model X.prog X.w) X.A X.env xe → L2N.Takes (X.tr pn xe) (fun cls d _ H => E' cls d H) → PDSs (X.tr pn xe) K E' body (tsB E') db)
    (hc : ∀ c wd, (c, wd) ∈ ws → CalE X.prog X.w X.K X.mg X.base k y c wd) (hex : ∀ c wd, (c, wd) ∈ ws → PySem.W.exmOne X.K (.ref (He.ga X.K c)) (.ref (He.ga X.K x)) = some true) (hx : X.mg x = some (.ref (He.ga X.K x))) (tk : L2N.Takes X (fun cls d _ H => E cls d H)) (hr : Room k X.A) (hnd : X.N.Nodup)
    (hs : X.stack = X.env :: X.outer := by rfl) (hf : X.env.frame = some X.env.locals := by rfl) (hN : X.N[i]? = some n := by rfl) (hln : X.env.kindOf n = some .local := by rfl) (hd : (n == ("__debug__" : Str)) = false := by decide) (hcd : (n == ("__classdict__" : Str)) = false := by decide)
    (hg : Gl X y := by rfl) (hdb : (y == ("__debug__" : Str)) = false := by decide) (hgx : Gl X x := by rfl) (hdx : (x == ("__debug__" : Str)) = false := by decide) (hk : X.K = K := by rfl) :
    PDS X K E (.Try body [.ExceptHandler (some (.Name x np)) (some n) [.Return (some (.Call (.Name y q) [.Name n ep] [] cp)) rp] pos'] [] [] pos)
      (fun D σ H => tsB (eTry X (.ref (He.ga X.K x)) i (tsTry X.K i ws) (fun cls d _ H => E cls d H) D) D σ H) (dTry db ws) := by
  subst hk
  have hsu := fun (a : Addr) (oe : Obj) (cls : Value) (d : Option Addr) (pn : List (Addr × Obj)) (hz : L2N.Zn cls d oe) (hf : ∃ vs, oe.data = .fields vs) => ps_suite (q := q) (ep := ep) (rp := rp) (cp := cp) hc hN (.inl hln) hd hcd hg hdb hr a oe cls d pn hz hf
  refine ⟨rfl, ⟨fun pins s σ H D I h => ?_⟩, fun g0 H0 g H Ω ρ σ D s h => ?_⟩
  · have hp := L2N.ps_try_as (pos := pos) (pos' := pos') (np := np) (i := i) (tb := fun W => tsB (fun c d H => ∀ σ', σ'.length = X.N.length → W c d σ' H)) (ts := tsTry X.K i ws) hs hf hnd hN hln ⟨hgx, hdx, .inl hx⟩ tk
      (fun W pn xe tk' po => (hb (fun c d H => ∀ σ', σ'.length = X.N.length → W c d σ' H) pn xe (L2N.passes_call (xe_tr tk' fun c d σ H hl z => z σ hl) fun _ _ _ _ z => z) po (xe_tr tk' fun c d σ H hl z => z σ hl)).ps) hsu
    exact hp.run pins s σ H D I h
  · have xt : L2N.Takes (X.tr [] fun e s₁ => wpAny (model X.prog X.w) X.A (noteFrame e X.env) (fun _ s₂ => wpAny (model X.prog X.w) X.A (setFlight e none) (fun _ _ => True) (fun _ _ => True) s₂) (fun _ _ => True) s₁) (fun c d _ H => eTry X (.ref (He.ga X.K x)) i (tsTry X.K i ws) (fun cls d _ H => E cls d H) D c d H) := by
      rintro u s' ⟨a, B, sI, pins, σ, H, cls, d, rfl, I, nb, up, sky, na, os, ag, w⟩
      have hfr : X.A.frames = some (X.env :: X.outer) := by rw [← hs]; exact I.ok.frames
      have sky' : Sky B (X.env :: X.outer) a (L2N.Zn cls d) X.env.locals s'.heap := by rw [← hs]; exact sky
      exact L2N.Sky.land L2N.Zn.steady hfr hf sky' fun _ _ _ => trivial
    have o := hb _ [] _ (L2N.passes_call xt fun _ _ _ _ z => z) PassesOwn.looking xt
    refine o.td g0 H0 g H Ω ρ σ D s ?_
    unfold dTry at h
    cases e : db ρ Ω with
    | nx ρ' Ω' => rw [e] at h; exact h
    | rt d Ω' => rw [e] at h; exact h
    | bad => rw [e] at h; exact h
    | exc c Ω' =>
      rw [e] at h
      have h' : PstS X.K E g0 H0 g H D (match ws.lookup c with | some wd => .rt (.str wd) Ω' | none => .bad) := h
      cases e2 : ws.lookup c with
      | none => rw [e2] at h'; exact h'.elim
      | some wd =>
        rw [e2] at h'
        have hm : (c, wd) ∈ ws := PySem.mem_of_lookup e2
        refine fun g' H' fe ob σ' hl => ⟨true, hex c wd hm, fun _ a ha => ⟨c, wd, hm, rfl, rfl, ?_, g', Ω', ob, fun g2 H2 b f2 o2 r2 => h' g2 H2 b (fe.fr f2) o2 r2⟩, fun z => nomatch z⟩
        rw [List.getElem?_set_self]
        rw [hl]
        exact (List.getElem?_eq_some_iff.mp hN).1
end
end Fm
/-! Fm, part 21: the store: objects with attributes, dicts with text keys, lists that are changed. -/
namespace Fm
open PySem PySem.Spec L2
open PyProof.Rows hiding St

/-! ### the store's steps -/
section
variable {K : PySem.W.Frag} {E : XK} {g g0 g1 g2 : G} {H H0 H1 H2 : Hp} {Ω : Om} {i : Nat} {a p : Addr} {o o' : HO}
theorem FdR.keep (st : GSt g H g2 H2) (hf : ∀ f, g2.adr (.fld i f) = g.adr (.fld i f)) (hk : ∀ b f u, g.own b = some (.fld i f) → H b = some u → H2 b = some u) {x : Str} : ∀ {d : Fd} {v : V}, FdR K g H i x d v → FdR K g2 H2 i x d v
  | .val d, v, h => Rp.step st d v h
  | .own ds, v, h => by
    obtain ⟨e1, e2, vs, e3, r, z⟩ := h
    refine ⟨by rw [hf]; exact e1, ?_, vs, ?_, RpL.step st ds vs r, z⟩
    · rw [hf, st.own _ (ne_some e3)]
      exact e2
    · rw [hf]
      exact hk _ _ _ e2 e3
theorem FdsR.keepO (st : GSt g H g2 H2) (hf : ∀ f, g2.adr (.fld i f) = g.adr (.fld i f)) (hk : ∀ b f u, g.own b = some (.fld i f) → H b = some u → H2 b = some u) : ∀ {fs : List (Str × Fd)} {vs : List (Str × V)}, FdsR K g H i fs vs → FdsR K g2 H2 i fs vs
  | [], _, h => h
  | (_, _) :: fs, vs, h => by
    obtain ⟨v, r, e1, h1, h2⟩ := h
    exact ⟨v, r, e1, h1.keep st hf hk, FdsR.keepO st hf hk h2⟩
/-- an object of the store that is not touched -/
theorem ObR.keep (st : GSt g H g2 H2) (ha : g2.adr (.obj i) = g.adr (.obj i)) (hf : ∀ f, g2.adr (.fld i f) = g.adr (.fld i f)) (h0 : ∀ u, H (g.adr (.obj i)) = some u → H2 (g.adr (.obj i)) = some u)
    (hk : ∀ b f u, g.own b = some (.fld i f) → H b = some u → H2 b = some u) : ∀ {s : ObjS}, ObR K g H i s → ObR K g2 H2 i s
  | .tab, h => by
    obtain ⟨k0, ps, k1, k2, k3⟩ := h
    refine ⟨by rw [ha]; exact k0, ps, by rw [ha]; exact h0 _ k1, k2, fun pos cv z => ?_⟩
    obtain ⟨c, e1, e2, e3⟩ := k3 pos cv z
    exact ⟨c, e1, by rw [st.lock c (ne_some e2) e3]; exact e2, by rw [st.own c (ne_some e2)]; exact e3⟩
  | .ins c fs, h => by
    obtain ⟨dx, vs, k1, k2, k3⟩ := h
    exact ⟨dx, vs, by rw [ha]; exact h0 _ k1, k2.keepO st hf hk, k3⟩
  | .dk fs, h => by
    obtain ⟨vs, k1, k2, k3⟩ := h
    exact ⟨vs, by rw [ha]; exact h0 _ k1, k2.keepO st hf hk, k3⟩
  | .ls ds, h => by
    obtain ⟨vs, k1, k2, k3⟩ := h
    exact ⟨vs, by rw [ha]; exact h0 _ k1, RpL.step st _ _ k2, k3⟩
  | .tp ds, h => by
    obtain ⟨vs, ob, k1, k0, k2, k3⟩ := h
    exact ⟨vs, ob, by rw [ha]; exact h0 _ k1, k0, RpL.step st _ _ k2, k3⟩
theorem fr_obj (hh : H (g.adr (.obj i)) = some o) (hm : (∀ xs, o ≠ .tup xs) ∧ ∀ x u, o ≠ .frz x u) (hw : g.own (g.adr (.obj i)) = some (.obj i)) : Fr g H g (L2.upd H (g.adr (.obj i)) o') :=
  ⟨GSt.upd hh hm hw (fun z => nomatch z), fun _ => rfl, fun b u e h1 _ => by
    rw [upd_ne]
    · exact e
    · rintro rfl
      exact h1 i hw⟩
theorem Ob.updO (ob : Ob K g H Ω) (hi : i < Ω.length) (hw : g.own (g.adr (.obj i)) = some (.obj i)) (f : GSt g H g (L2.upd H (g.adr (.obj i)) o')) {s : ObjS} (hs : ObR K g (L2.upd H (g.adr (.obj i)) o') i s) : Ob K g (L2.upd H (g.adr (.obj i)) o') (Ω.set i s) where
  at_ := fun j u e => by
    by_cases hj : i = j
    · subst hj
      rw [List.getElem?_set_self hi] at e
      cases e
      exact ⟨hw, hs⟩
    · rw [List.getElem?_set_ne hj] at e
      obtain ⟨h1, h2⟩ := ob.at_ j u e
      have ne : g.adr (.obj j) ≠ g.adr (.obj i) := fun z => by
        rw [z, hw] at h1
        cases h1
        exact hj rfl
      refine ⟨h1, h2.keep f rfl (fun _ => rfl) (fun u e => by rw [upd_ne ne]; exact e) fun b x u e1 e2 => ?_⟩
      rw [upd_ne]
      · exact e2
      · rintro rfl
        rw [hw] at e1
        cases e1
  lt := fun b j e => by
    rw [List.length_set]
    exact ob.lt b j e
/-- the ghosts with a new object of the store -/
def G.newO (g : G) (n : Nat) (p : Addr) : G := { own := fun b => if b = p then some (.obj n) else g.own b, adr := fun o => match o with | .obj j => if j = n then p else g.adr (.obj j) | o => g.adr o }
theorem G.newO_adr (g : G) (n : Nat) (p : Addr) : (g.newO n p).adr (.obj n) = p := if_pos rfl
theorem G.newO_ne (g : G) {n j : Nat} (p : Addr) (h : j ≠ n) : (g.newO n p).adr (.obj j) = g.adr (.obj j) := if_neg h
theorem G.newO_own (g : G) (n : Nat) (p : Addr) : (g.newO n p).own p = some (.obj n) := if_pos rfl
theorem G.newO_own_ne (g : G) (n : Nat) {p b : Addr} (h : b ≠ p) : (g.newO n p).own b = g.own b := if_neg h
theorem fr_newO (ob : Ob K g H Ω) (hp : H p = none) (hk : ∀ b u, H b = some u → H2 b = some u) : Fr g H (g.newO Ω.length p) H2 := by
  have ne : ∀ b, H b ≠ none → b ≠ p := fun b h e => h (by rw [e]; exact hp)
  refine ⟨⟨fun b h => G.newO_own_ne g _ (ne b h), fun j h1 h2 => G.newO_ne g p (Nat.ne_of_lt (ob.lt _ j h1)), fun b xs e => hk b _ e, fun b x u e => hk b _ e, fun b h _ => ?_, fun b h => ?_⟩, fun _ => rfl, fun b u e _ _ => hk b u e⟩
  · cases e : H b with
    | none => exact absurd e h
    | some u => exact hk b u e
  · cases e : H b with
    | none => exact absurd e h
    | some u => rw [hk b u e]; exact fun z => nomatch z
theorem Ob.newO (ob : Ob K g H Ω) (hp : H p = none) (hk : ∀ b u, H b = some u → H2 b = some u) {s : ObjS} (hs : ObR K (g.newO Ω.length p) H2 Ω.length s) : Ob K (g.newO Ω.length p) H2 (Ω ++ [s]) where
  at_ := fun j u e => by
    by_cases hj : j < Ω.length
    · rw [List.getElem?_append_left hj] at e
      obtain ⟨h1, h2⟩ := ob.at_ j u e
      have nj : j ≠ Ω.length := Nat.ne_of_lt hj
      have np : g.adr (.obj j) ≠ p := fun z => h2.there (by rw [z]; exact hp)
      exact ⟨by rw [G.newO_ne g p nj, G.newO_own_ne g _ np]; exact h1, h2.keep (fr_newO ob hp hk).toGSt (G.newO_ne g p nj) (fun _ => rfl) (fun u e => hk _ u e) fun b f u _ e => hk b u e⟩
    · have hl := (List.getElem?_eq_some_iff.mp e).1
      rw [List.length_append, List.length_singleton] at hl
      have ej : j = Ω.length := by omega
      subst ej
      rw [List.getElem?_append_right (Nat.le_refl _), Nat.sub_self] at e
      cases e
      exact ⟨by rw [G.newO_adr, G.newO_own], hs⟩
  lt := fun b j e => by
    rw [List.length_append, List.length_singleton]
    by_cases hb : b = p
    · subst hb
      rw [G.newO_own] at e
      cases e
      exact Nat.lt_succ_self _
    · rw [G.newO_own_ne g _ hb] at e
      exact Nat.lt_succ_of_lt (ob.lt b j e)
theorem rp_newO {u : HO} (h : H2 p = some u) {n : Nat} : Rp K (g.newO n p) H2 (.obj n) (.ref p) := by
  simp only [Rp]
  exact ⟨by rw [G.newO_adr], by rw [G.newO_adr, G.newO_own], by rw [G.newO_adr, h]; exact fun z => nomatch z⟩
theorem Rp.obj_inv {v : V} (h : Rp K g H (.obj i) v) : v = .ref (g.adr (.obj i)) := by
  simp only [Rp] at h
  exact h.1
end

/-! ### what the store holds -/
def insAt (Ω : Om) (c : Str) : D → Option (Nat × List (Str × Fd))
  | .obj i => match Ω[i]? with
    | some (.ins c' fs) => if c' = c then some (i, fs) else none
    | _ => none
  | _ => none
def dkAt (Ω : Om) : D → Option (Nat × List (Str × Fd))
  | .obj i => match Ω[i]? with
    | some (.dk fs) => some (i, fs)
    | _ => none
  | _ => none
def lsAt (Ω : Om) : D → Option (Nat × List D)
  | .obj i => match Ω[i]? with
    | some (.ls ds) => some (i, ds)
    | _ => none
  | _ => none
theorem insAt_some {Ω : Om} {c : Str} {x : D} {i : Nat} {fs : List (Str × Fd)} (h : insAt Ω c x = some (i, fs)) : x = .obj i ∧ Ω[i]? = some (.ins c fs) := by
  unfold insAt at h
  split at h
  · split at h
    · split at h
      · rename_i e c0
        cases h
        subst c0
        exact ⟨rfl, e⟩
      · cases h
    · cases h
  · cases h
theorem dkAt_some {Ω : Om} {x : D} {i : Nat} {fs : List (Str × Fd)} (h : dkAt Ω x = some (i, fs)) : x = .obj i ∧ Ω[i]? = some (.dk fs) := by
  unfold dkAt at h
  split at h
  · split at h
    · rename_i e
      cases h
      exact ⟨rfl, e⟩
    · cases h
  · cases h
theorem lsAt_some {Ω : Om} {x : D} {i : Nat} {ds : List D} (h : lsAt Ω x = some (i, ds)) : x = .obj i ∧ Ω[i]? = some (.ls ds) := by
  unfold lsAt at h
  split at h
  · split at h
    · rename_i e
      cases h
      exact ⟨rfl, e⟩
    · cases h
  · cases h
def fdV (fs : List (Str × Fd)) (f : Str) : Option D := match fs.lookup f with
  | some (.val d) => some d
  | _ => none
def putD (f : Str) (d : D) : List (Str × Fd) → List (Str × Fd)
  | [] => [(f, .val d)]
  | (k, x) :: r => if k = f then (k, .val d) :: r else (k, x) :: putD f d r
section
variable {K : PySem.W.Frag} {E : XK} {g : G} {H : Hp} {i : Nat} {f : Str} {d : D} {v : V}
theorem FdsR.lookup : ∀ {fs : List (Str × Fd)} {vs : List (Str × V)}, FdsR K g H i fs vs → fdV fs f = some d → ∃ v, vs.lookup f = some v ∧ Rp K g H d v
  | [], _, _, e => by cases e
  | (k, x) :: fs, vs, h, e => by
    obtain ⟨v, r, rfl, h1, h2⟩ := h
    unfold fdV at e
    rw [List.lookup_cons] at e ⊢
    cases q : f == k with
    | true =>
      rw [q] at e
      cases x with
      | val d' =>
        cases e
        exact ⟨v, rfl, h1⟩
      | own _ => cases e
    | false =>
      rw [q] at e
      exact FdsR.lookup h2 e
theorem FdsR.lookup_none : ∀ {fs : List (Str × Fd)} {vs : List (Str × V)}, FdsR K g H i fs vs → fs.lookup f = none → vs.lookup f = none
  | [], _, h, _ => by
    have e : _ = [] := h
    rw [e]
    rfl
  | (k, x) :: fs, vs, h, e => by
    obtain ⟨v, r, rfl, h1, h2⟩ := h
    rw [List.lookup_cons] at e ⊢
    cases q : f == k with
    | true => rw [q] at e; cases e
    | false =>
      rw [q] at e
      exact FdsR.lookup_none h2 e
theorem FdsR.put : ∀ {fs : List (Str × Fd)} {vs : List (Str × V)}, FdsR K g H i fs vs → Rp K g H d v → FdsR K g H i (putD f d fs) (putF f v vs)
  | [], _, h, r => by
    have e : _ = [] := h
    rw [e]
    exact ⟨v, [], rfl, r, rfl⟩
  | (k, x) :: fs, vs, h, r => by
    obtain ⟨w, rs, rfl, h1, h2⟩ := h
    show FdsR K g H i (if k = f then (k, .val d) :: fs else (k, x) :: putD f d fs) (if k = f then (k, v) :: rs else (k, w) :: putF f v rs)
    by_cases e : k = f
    · rw [if_pos e, if_pos e]
      exact ⟨v, rs, rfl, r, h2⟩
    · rw [if_neg e, if_neg e]
      exact ⟨w, _, rfl, h1, FdsR.put h2 r⟩
theorem FdsR.length : ∀ {fs : List (Str × Fd)} {vs : List (Str × V)}, FdsR K g H i fs vs → vs.length = fs.length
  | [], _, h => by
    have e : _ = [] := h
    rw [e] <;> rfl
  | (k, x) :: fs, vs, h => by
    obtain ⟨w, rs, rfl, h1, h2⟩ := h
    rw [List.length_cons, List.length_cons, FdsR.length h2]
theorem FdsR.keys : ∀ {fs : List (Str × Fd)} {vs : List (Str × V)}, FdsR K g H i fs vs → vs.map (·.1) = fs.map (·.1)
  | [], _, h => by
    have e : _ = [] := h
    rw [e] <;> rfl
  | (k, x) :: fs, vs, h => by
    obtain ⟨w, rs, rfl, h1, h2⟩ := h
    rw [List.map_cons, List.map_cons, FdsR.keys h2]
theorem putD_keys : ∀ (fs : List (Str × Fd)), (putD f d fs).map (·.1) = if f ∈ fs.map (·.1) then fs.map (·.1) else fs.map (·.1) ++ [f]
  | [] => by rfl
  | (k, x) :: fs => by
    show List.map (·.1) (if k = f then (k, Fd.val d) :: fs else (k, x) :: putD f d fs) = _
    by_cases e : k = f
    · subst e
      rw [if_pos rfl, if_pos (by simp)]
      rfl
    · rw [if_neg e, List.map_cons, putD_keys fs]
      have e' : ¬ f = k := fun z => e z.symm
      by_cases c : f ∈ fs.map (·.1)
      · rw [if_pos c, if_pos (by rw [List.map_cons]; exact List.mem_cons_of_mem _ c)]
        rfl
      · rw [if_neg c, if_neg (by rw [List.map_cons, List.mem_cons, not_or]; exact ⟨e', c⟩)]
        rfl
theorem putD_nodup {fs : List (Str × Fd)} (h : (fs.map (·.1)).Nodup) : ((putD f d fs).map (·.1)).Nodup := by
  rw [putD_keys]
  split
  · exact h
  · rename_i c
    rw [List.nodup_append]
    exact ⟨h, by simp, fun a ha b hb => by
      rw [List.mem_singleton] at hb
      subst hb
      rintro rfl
      exact c ha⟩
theorem putD_length (fs : List (Str × Fd)) : (putD f d fs).length ≤ fs.length + 1 := by
  have := congrArg List.length (putD_keys (f := f) (d := d) fs)
  rw [List.length_map] at this
  split at this <;> simp at this <;> omega
end

/-! ### attributes -/
section
variable {X : Cx} {K : PySem.W.Frag} {E : XK} {ta te : TE} {da de : DE} {tas : TA} {das : DA} {a e : Expr} {es : List Expr} {c f m : Str} {pos apos p : Pos}
/-- what a class of the module must have -/
structure ClsD (K : PySem.W.Frag) (c : Str) : Prop where
  cls : Cls K (He.ga K c)
def dFld (c f : Str) (da : DE) : DE := fun ρ Ω => (da ρ Ω).bind fun x Ω1 => match insAt Ω1 c x with
  | some (_, fs) => lift (fdV fs f) Ω1
  | none => .bad
theorem td_fld (C : Cls K (He.ga K c)) (N : NoAttr K (He.ga K c) f) (ha : TD K E ta da) : TD K E (tFld K ta f) (dFld c f da) := fun g H Ω ρ σ Q S O h =>
  ha g H Ω ρ σ _ S O (Pst.bind h fun x Ω1 g1 H1 v f1 o1 r1 q => by
    cases e : insAt Ω1 c x with
    | none => rw [e] at q; exact q.elim
    | some t =>
      obtain ⟨i, fs⟩ := t
      rw [e] at q
      have q : Pst K E g1 H1 (Rp K) Q (lift (fdV fs f) Ω1) := q
      obtain ⟨rfl, eo⟩ := insAt_some e
      obtain ⟨dx, vs, k1, k2, k3⟩ := (o1.at_ i _ eo).2
      cases e2 : fdV fs f with
      | none => rw [e2] at q; exact q.elim
      | some d =>
        rw [e2] at q
        obtain ⟨w, l, rw'⟩ := k2.lookup e2
        exact ⟨_, _, dx, vs, w, r1.obj_inv, k1, C, N, l, q g1 H1 w Fr.refl o1 rw'⟩)
theorem pd_fld (C : Cls K (He.ga K c)) (N : NoAttr K (He.ga K c) f) (ha : PD X K E a ta da) (hb : attributeBase a f X.env (eval a X.env) = eval a X.env := by rfl) : PD X K E (.Attribute a f pos) (tFld K ta f) (dFld c f da) := by
  obtain ⟨k, pe, td⟩ := ha
  subst k
  exact ⟨rfl, pe_fld pe hb, td_fld C N td⟩
/-! methods -/
def dMeth (c m : Str) (F : List D → Om → Res D) (da : DE) (das : DA) : DE := fun ρ Ω => (da ρ Ω).bind fun x Ω1 => match insAt Ω1 c x with
  | some (_, fs) => if fs.lookup m = none then (das ρ Ω1).bind fun xs Ω2 => F (x :: xs) Ω2 else .bad
  | none => .bad
theorem td_meth {n : Nat} {F : List D → Om → Res D} (hn : ∀ ρ Ω ds Ω', das ρ Ω = .ok ds Ω' → ds.length + 1 = n) (ha : TD K E ta da) (h1 : TDA K E tas das) : TD K E (tMeth (He.ga K c) m (spD K n F) [] E ta tas) (dMeth c m F da das) := fun g H Ω ρ σ Q S O h =>
  ha g H Ω ρ σ _ S O (Pst.bind h fun x Ω1 g1 H1 v f1 o1 r1 q => by
    cases e : insAt Ω1 c x with
    | none => rw [e] at q; exact q.elim
    | some t =>
      obtain ⟨i, fs⟩ := t
      rw [e] at q
      have q : Pst K E g1 H1 (Rp K) Q (if fs.lookup m = none then (das ρ Ω1).bind fun xs Ω2 => F (x :: xs) Ω2 else .bad) := q
      obtain ⟨rfl, eo⟩ := insAt_some e
      obtain ⟨dx, vs, k1, k2, k3⟩ := (o1.at_ i _ eo).2
      have ev := r1.obj_inv
      subst ev
      by_cases c1 : fs.lookup m = none
      · rw [if_pos c1] at q
        refine ⟨_, dx, vs, rfl, k1, k2.lookup_none c1, ?_⟩
        refine h1 g1 H1 Ω1 ρ σ _ (S.fr f1) o1 ?_
        cases e3 : das ρ Ω1 with
        | ok ds Ω2 =>
          rw [e3] at q
          intro g2 H2 ws f2 o2 r2
          rw [List.append_nil]
          exact ⟨g2, Ω2, .obj i :: ds, hn ρ Ω1 ds Ω2 e3, RpL.cons (Rp.step f2.toGSt _ _ r1) r2, o2, Pst.fr f2 q⟩
        | exc y Ω2 => rw [e3] at q; exact q
        | bad => rw [e3] at q; exact q
      · rw [if_neg c1] at q
        exact q.elim)
/-- a method that keeps what F says -/
structure CalM (P : Program) (w : World) (K : PySem.W.Frag) (mg : Str → Option Value) (base : Heap) (k : Nat) (c m : Str) (n : Nat) (F : List D → Om → Res D) : Prop where
  ex : ∃ (f : Addr) (fd : FuncData) (ps : List Str), FnOk P w K mg base (L2N.CX P w) k f fd ps (spD K n F) ∧ Meth K (He.ga K c) m f ∧ Binds K fd ps []
theorem CalM.mono {P : Program} {w : World} {mg : Str → Option Value} {base : Heap} {k j n : Nat} {F : List D → Om → Res D} (q : CalM P w K mg base k c m n F) (h : k ≤ j) : CalM P w K mg base j c m n F := by
  obtain ⟨f, fd, ps, G, hm, hb⟩ := q.ex
  exact ⟨f, fd, ps, G.mono h, hm, hb⟩
theorem pd_meth {k kk n : Nat} {F : List D → Om → Res D} (o : CalM X.prog X.w X.K X.mg X.base k c m n F) (C : Cls K (He.ga K c)) (hr : Room kk X.A) (hp : Passes (L2N.CX X.prog X.w) X E) (ha : PD X K E a ta da) (hs : PDA X K E (e :: es) tas das)
    (hn : ∀ ρ Ω ds Ω', das ρ Ω = .ok ds Ω' → ds.length + 1 = n) (hkm : k ≤ kk := by decide) {pl : Sem Bool}
    (hst : starEach (e :: es) X.env = (false, eval e X.env) :: starEach es X.env := by rfl) (hpl : (backTo pos (starEach es X.env)).any (·.1) = false := by rfl)
    (ht : eval (.Call (.Attribute a m apos) (e :: es) [] pos) X.env = (do
      let ov ← eval a X.env
      standAt apos.atName
      let (f, first) ← holding [ov] (getMethod ov m pl)
      callWith pos f first (backTo pos (starEach (e :: es) X.env)) (backToKw pos (keywordEach [] X.env))) := by rfl) :
    PD X K E (.Call (.Attribute a m apos) (e :: es) [] pos) (tMeth (He.ga K c) m (spD K n F) [] E ta tas) (dMeth c m F da das) := by
  obtain ⟨k1, pe, td⟩ := ha
  subst k1
  obtain ⟨f, fd, ps, G, hm, hb⟩ := o.ex
  exact ⟨rfl, pe_meth (pl := pl) pe C hm G (hr.mono hkm) hb .nil hp hs.pa hst hpl ht, td_meth hn td hs.td⟩
theorem pd_meth0 {k kk : Nat} {F : List D → Om → Res D} (o : CalM X.prog X.w X.K X.mg X.base k c m 1 F) (C : Cls K (He.ga K c)) (hr : Room kk X.A) (hp : Passes (L2N.CX X.prog X.w) X E) (ha : PD X K E a ta da) (hkm : k ≤ kk := by decide) {pl : Sem Bool}
    (ht : eval (.Call (.Attribute a m apos) [] [] pos) X.env = (do
      let ov ← eval a X.env
      standAt apos.atName
      let (f, first) ← holding [ov] (getMethod ov m pl)
      callWith pos f first (backTo pos (starEach [] X.env)) (backToKw pos (keywordEach [] X.env))) := by rfl) :
    PD X K E (.Call (.Attribute a m apos) [] [] pos) (tMeth (He.ga K c) m (spD K 1 F) [] E ta tNil) (dMeth c m F da dNil) := by
  obtain ⟨k1, pe, td⟩ := ha
  subst k1
  obtain ⟨f, fd, ps, G, hm, hb⟩ := o.ex
  exact ⟨rfl, pe_meth0 (pl := pl) pe C hm G (hr.mono hkm) hb .nil hp ht, td_meth (fun ρ Ω ds Ω' e => by rw [dNil_len ρ Ω ds Ω' e]) td tda_nil⟩
/-! a new instance -/
def dMake (c : Str) (F : List D → Om → Res D) (das : DA) : DE := fun ρ Ω => (das ρ Ω).bind fun xs Ω1 => (F (.obj Ω1.length :: xs) (Ω1 ++ [.ins c []])).bind fun r Ω2 => match r with
  | .non => .ok (.obj Ω1.length) Ω2
  | _ => .bad
theorem td_make {n : Nat} {F : List D → Om → Res D} (hn : ∀ ρ Ω ds Ω', das ρ Ω = .ok ds Ω' → ds.length + 1 = n) (h1 : TDA K E tas das) : TD K E (tMake (He.ga K c) (spD K n F) [] E tas) (dMake c F das) := fun g H Ω ρ σ Q S O h => by
  refine h1 g H Ω ρ σ _ S O ?_
  unfold dMake at h
  cases e3 : das ρ Ω with
  | exc y Ω2 => rw [e3] at h; exact h
  | bad => rw [e3] at h; exact h
  | ok xs Ω1 =>
    rw [e3] at h
    have h : Pst K E g H (Rp K) Q ((F (.obj Ω1.length :: xs) (Ω1 ++ [.ins c []])).bind fun r Ω2 => match r with | .non => .ok (.obj Ω1.length) Ω2 | _ => .bad) := h
    intro g1 H1 vs f1 o1 r1 x dx hx hdx ne
    have hk : ∀ b u, H1 b = some u → L2.upd (L2.upd H1 dx (.own x)) x (.ins (He.ga K c) dx []) b = some u := fun b u e => by
      rw [upd_ne (ne_of_none e hx), upd_ne (ne_of_none e hdx)]
      exact e
    have f2 : Fr g1 H1 (g1.newO Ω1.length x) (L2.upd (L2.upd H1 dx (.own x)) x (.ins (He.ga K c) dx [])) := fr_newO o1 hx hk
    have o2 := o1.newO hx hk (s := .ins c []) (by
      refine ⟨dx, [], by rw [G.newO_adr, upd_same], rfl, List.nodup_nil, by decide⟩)
    have ro : Rp K (g1.newO Ω1.length x) (L2.upd (L2.upd H1 dx (.own x)) x (.ins (He.ga K c) dx [])) (.obj Ω1.length) (.ref x) := rp_newO upd_same
    rw [List.append_nil]
    refine ⟨_, _, .obj Ω1.length :: xs, hn ρ Ω xs Ω1 e3, RpL.cons ro (RpL.step f2.toGSt _ _ r1), o2, ?_⟩
    have h2 := Pst.fr (f1.trans f2) h
    cases e4 : F (.obj Ω1.length :: xs) (Ω1 ++ [.ins c []]) with
    | exc y Ω2 => rw [e4] at h2; exact h2
    | bad => rw [e4] at h2; exact h2
    | ok r Ω2 =>
      rw [e4] at h2
      cases r with
      | non =>
        have h3 : Pst K E (g1.newO Ω1.length x) (L2.upd (L2.upd H1 dx (.own x)) x (.ins (He.ga K c) dx [])) (Rp K) Q (.ok (.obj Ω1.length) Ω2) := h2
        exact fun g' H' b f' o' r' => ⟨r'.non_inv, h3 g' H' (.ref x) f' o' (Rp.step f'.toGSt _ _ ro)⟩
      | _ => exact h2.elim
/-- a class with its __init__ -/
structure CalI (P : Program) (w : World) (K : PySem.W.Frag) (mg : Str → Option Value) (base : Heap) (k : Nat) (c : Str) (n : Nat) (F : List D → Om → Res D) : Prop where
  ex : ∃ (f : Addr) (fd : FuncData) (ps : List Str), FnOk P w K mg base (L2N.CX P w) k f fd ps (spD K n F) ∧ Mk K (He.ga K c) f ∧ mg c = some (.ref (He.ga K c)) ∧ Binds K fd ps []
theorem CalI.mono {P : Program} {w : World} {mg : Str → Option Value} {base : Heap} {k j n : Nat} {F : List D → Om → Res D} (q : CalI P w K mg base k c n F) (h : k ≤ j) : CalI P w K mg base j c n F := by
  obtain ⟨f, fd, ps, G, hm, hg, hb⟩ := q.ex
  exact ⟨f, fd, ps, G.mono h, hm, hg, hb⟩
theorem pd_make {k kk n : Nat} {F : List D → Om → Res D} (o : CalI X.prog X.w X.K X.mg X.base k c n F) (hr : Room kk X.A) (hp : Passes (L2N.CX X.prog X.w) X E) (hs : PDA X K E (e :: es) tas das) (hn : ∀ ρ Ω ds Ω', das ρ Ω = .ok ds Ω' → ds.length + 1 = n)
    (hkm : k + 1 ≤ kk := by decide) (hg : Gl X c := by rfl) (hdb : (c == ("__debug__" : Str)) = false := by decide) (he : starEach (e :: es) X.env = (false, eval e X.env) :: starEach es X.env := by rfl) (hpl : (backTo pos (starEach es X.env)).any (·.1) = false := by rfl) :
    PD X K E (.Call (.Name c p) (e :: es) [] pos) (tMake (He.ga K c) (spD K n F) [] E tas) (dMake c F das) := by
  obtain ⟨k1, pa, td⟩ := hs
  subst k1
  obtain ⟨f, fd, ps, G, M, hm, hb⟩ := o.ex
  exact ⟨rfl, pe_make M G (hr.mono hkm) hg hm hb .nil hp pa hdb he hpl, td_make hn td⟩
end

/-! ### lists of the store -/
section
variable {X : Cx} {K : PySem.W.Frag} {E : XK} {ta te : TE} {da de : DE} {tas : TA} {das : DA} {a e : Expr} {es : List Expr} {pos apos p : Pos}
def dNewLs (das : DA) : DE := fun ρ Ω => (das ρ Ω).bind fun xs Ω1 => if xs.length ≤ lim then .ok (.obj Ω1.length) (Ω1 ++ [.ls xs]) else .bad
theorem td_newLs (ha : TDA K E tas das) : TD K E (tLst tas) (dNewLs das) := fun g H Ω ρ σ Q S O h =>
  ha g H Ω ρ σ _ S O (Pst.bind h fun xs Ω1 g1 H1 vs f1 o1 r1 h1 => by
    by_cases z : xs.length ≤ lim
    · rw [if_pos z] at h1
      refine ⟨by rw [r1.length]; exact Nat.le_trans z lim_le, fun p hp => ?_⟩
      have hk : ∀ b u, H1 b = some u → L2.upd H1 p (.lst vs) b = some u := fun b u e => by
        rw [upd_ne (ne_of_none e hp)]
        exact e
      have f2 := fr_newO o1 hp hk
      exact h1 _ _ (.ref p) f2 (o1.newO hp hk (s := .ls xs) ⟨vs, by rw [G.newO_adr, upd_same], RpL.step f2.toGSt _ _ r1, z⟩) (rp_newO upd_same)
    · rw [if_neg z] at h1
      exact h1.elim)
theorem pd_newLs (h : PDA X K E es tas das) : PD X K E (.List es pos) (tLst tas) (dNewLs das) := ⟨h.k, pe_lst h.pa, td_newLs h.td⟩
/-- o.append(e) -/
def dAppO (da de : DE) : DE := fun ρ Ω => (da ρ Ω).bind fun x Ω1 => match lsAt Ω1 x with
  | some _ => (de ρ Ω1).bind fun d Ω2 => match lsAt Ω2 x with
    | some (i, ds) => if ds.length < lim then .ok .non (Ω2.set i (.ls (ds ++ [d]))) else .bad
    | none => .bad
  | none => .bad
theorem nlst' {xs : List V} : (∀ ys, HO.lst xs ≠ .tup ys) ∧ ∀ x u, HO.lst xs ≠ .frz x u := ⟨(fun _ z => by cases z), (fun _ _ z => by cases z)⟩
theorem td_appO (ha : TD K E ta da) (he : TD K E te de) : TD K E (tBM K "list" rAppend ta (tCons te tNil)) (dAppO da de) := fun g H Ω ρ σ Q S O h =>
  ha g H Ω ρ σ _ S O (Pst.bind h fun x Ω1 g1 H1 v f1 o1 r1 q => by
    cases e : lsAt Ω1 x with
    | none => rw [e] at q; exact q.elim
    | some t =>
      obtain ⟨i0, ds0⟩ := t
      rw [e] at q
      obtain ⟨rfl, eo⟩ := lsAt_some e
      obtain ⟨vs0, k1, k2, k3⟩ := (o1.at_ i0 _ eo).2
      have ev := r1.obj_inv
      subst ev
      refine ⟨Or.inl ⟨rfl, _, Or.inl (Or.inl k1)⟩, ?_⟩
      refine he g1 H1 Ω1 ρ σ _ (S.fr f1) o1 (Pst.bind q fun d Ω2 g2 H2 w f2 o2 r2 q2 => ?_)
      cases e2 : lsAt Ω2 (.obj i0) with
      | none => rw [e2] at q2; exact q2.elim
      | some t2 =>
        obtain ⟨i, ds⟩ := t2
        rw [e2] at q2
        have q2 : Pst K E g2 H2 (Rp K) Q (if ds.length < lim then .ok .non (Ω2.set i (.ls (ds ++ [d]))) else .bad) := q2
        obtain ⟨ei, eo2⟩ := lsAt_some e2
        cases ei
        obtain ⟨hw, vs, k4, k5, k6⟩ := o2.at_ i0 _ eo2
        by_cases c : ds.length < lim
        · rw [if_pos c] at q2
          have ea := (Rp.step f2.toGSt _ _ r1).obj_inv
          rw [ea]
          have ev2 : V.ref (g1.adr (.obj i0)) = V.ref (g2.adr (.obj i0)) := ea
          refine ⟨_, vs, w, rfl, rfl, k4, by rw [k5.length]; exact Nat.lt_trans c lim_lt, ?_⟩
          have f3 : Fr g2 H2 g2 (L2.upd H2 (g2.adr (.obj i0)) (.lst (vs ++ [w]))) := fr_obj k4 nlst' hw
          exact q2 g2 _ .non f3 (o2.updO (List.getElem?_eq_some_iff.mp eo2).1 hw f3.toGSt ⟨vs ++ [w], upd_same, RpL.step f3.toGSt _ _ (k5.append (RpL.cons r2 RpL.nil)), by rw [List.length_append, List.length_singleton]; omega⟩) Rp.non
        · rw [if_neg c] at q2
          exact q2.elim)
theorem pd_appO (ha : PD X K E a ta da) (he : PD X K E e te de) (hbase : attributeBase a "append" X.env (eval a X.env) = eval a X.env := by rfl)
    (hfew : ((backTo pos (starEach [e] X.env)).all (fun x => !x.1) && (backToKw pos (keywordEach [] X.env)).all (fun x => x.1.isSome) && decide ([e].length + ([] : List Keyword).length + (if ([] : List Keyword).isEmpty then 0 else 1) < 30)) = true := by rfl)
    (hline : (apos.endLine == pos.line) = true := by rfl) (hs : starEach [e] X.env = (false, eval e X.env) :: starEach [] X.env := by rfl) (hplain : (backTo pos (starEach [] X.env)).any (·.1) = false := by rfl) :
    PD X K E (.Call (.Attribute a "append" apos) [e] [] pos) (tBM K "list" rAppend ta (tCons te tNil)) (dAppO da de) := by
  obtain ⟨k, pa, qa⟩ := ha
  subst k
  exact ⟨rfl, pe_bm PySem.F.plainAttrs_list PySem.F.slot_list_append PySem.F.type_list_append mt_append pa (pa_cons he.pe pa_nil hs) hbase hfew hline hs hplain, td_appO qa he.td⟩
/-- o.pop() -/
def dPopO (da : DE) : DE := fun ρ Ω => (da ρ Ω).bind fun x Ω1 => match lsAt Ω1 x with
  | some (i, ds) => match ds[ds.length - 1]? with
    | some d => .ok d (Ω1.set i (.ls ds.dropLast))
    | none => .bad
  | none => .bad
theorem RpL.dropLast {g : G} {H : Hp} {ds : List D} {vs : List V} (h : RpL K g H ds vs) : RpL K g H ds.dropLast vs.dropLast := by
  rw [List.dropLast_eq_take, List.dropLast_eq_take, h.length]
  exact h.take _
theorem td_popO (ha : TD K E ta da) : TD K E (tBM0 K "list" rPop ta) (dPopO da) := fun g H Ω ρ σ Q S O h =>
  ha g H Ω ρ σ _ S O (Pst.bind h fun x Ω1 g1 H1 v f1 o1 r1 q => by
    cases e : lsAt Ω1 x with
    | none => rw [e] at q; exact q.elim
    | some t =>
      obtain ⟨i, ds⟩ := t
      rw [e] at q
      have q : Pst K E g1 H1 (Rp K) Q (match ds[ds.length - 1]? with | some d => .ok d (Ω1.set i (.ls ds.dropLast)) | none => .bad) := q
      obtain ⟨rfl, eo⟩ := lsAt_some e
      obtain ⟨hw, vs, k1, k2, k3⟩ := o1.at_ i _ eo
      have ev := r1.obj_inv
      subst ev
      refine ⟨Or.inl ⟨rfl, _, Or.inl (Or.inl k1)⟩, ?_⟩
      cases e2 : ds[ds.length - 1]? with
      | none => rw [e2] at q; exact q.elim
      | some d =>
        rw [e2] at q
        obtain ⟨w, h1, h2⟩ := k2.get e2
        have f3 : Fr g1 H1 g1 (L2.upd H1 (g1.adr (.obj i)) (.lst vs.dropLast)) := fr_obj k1 nlst' hw
        exact ⟨_, vs, w, rfl, rfl, k1, by rw [k2.length]; exact h1, q g1 _ w f3 (o1.updO (List.getElem?_eq_some_iff.mp eo).1 hw f3.toGSt ⟨vs.dropLast, upd_same, RpL.step f3.toGSt _ _ k2.dropLast, by rw [List.length_dropLast]; omega⟩) (Rp.step f3.toGSt _ _ h2)⟩)
theorem pd_popO (ha : PD X K E a ta da) (hbase : attributeBase a "pop" X.env (eval a X.env) = eval a X.env := by rfl) (hline : (apos.endLine == pos.line) = true := by rfl) :
    PD X K E (.Call (.Attribute a "pop" apos) [] [] pos) (tBM0 K "list" rPop ta) (dPopO da) := by
  obtain ⟨k, pa, qa⟩ := ha
  subst k
  exact ⟨rfl, pe_bm0 PySem.F.plainAttrs_list PySem.F.slot_list_pop PySem.F.type_list_pop mt_pop pa hbase hline, td_popO qa⟩
/-- a list's truth -/
def dTruO (da : DE) : DT := fun ρ Ω => (da ρ Ω).bind fun x Ω1 => match lsAt Ω1 x with
  | some (_, ds) => .ok (!ds.isEmpty) Ω1
  | none => .bad
theorem pdt_truO (h : PD X K E e te de) (he : ∀ whole, isTrue e X.env whole = (do let v ← whole; standAt e.pos; holding [v] (truthy v)) := by intro _; rfl) : PDT X K E e (fun σ H Q => te σ H fun x H' => ∃ k, TruV K x H' k ∧ Q k H') (dTruO de) := by
  obtain ⟨k, pe, td⟩ := h
  subst k
  refine ⟨rfl, pt_truth pe he, fun g H Ω ρ σ Q S O h => td g H Ω ρ σ _ S O (Pst.bind h fun x Ω1 g1 H1 v f1 o1 r1 q => ?_)⟩
  cases e : lsAt Ω1 x with
  | none => rw [e] at q; exact q.elim
  | some t =>
    obtain ⟨i, ds⟩ := t
    rw [e] at q
    obtain ⟨rfl, eo⟩ := lsAt_some e
    obtain ⟨hw, vs, k1, k2, k3⟩ := o1.at_ i _ eo
    have ev := r1.obj_inv
    subst ev
    refine ⟨!ds.isEmpty, .inl ⟨vs, SqL.of k1, ?_⟩, q g1 H1 _ Fr.refl o1 rfl⟩
    have := k2.length
    cases ds <;> cases vs <;> first | rfl | (simp at this)
/-- o == [] -/
def dNilO (da : DE) : DE := fun ρ Ω => (da ρ Ω).bind fun x Ω1 => match lsAt Ω1 x with
  | some (_, ds) => if (ds.all fun d => sh 7 d) = true then .ok (.bl ds.isEmpty) Ω1 else .bad
  | none => .bad
theorem td_nilO (ha : TD K E ta da) : TD K E (tOp (rEqD K) ta (tLst tNil)) (dNilO da) := fun g H Ω ρ σ Q S O h =>
  ha g H Ω ρ σ _ S O (Pst.bind h fun x Ω1 g1 H1 v f1 o1 r1 q => by
    cases e : lsAt Ω1 x with
    | none => rw [e] at q; exact q.elim
    | some t =>
      obtain ⟨i, ds⟩ := t
      rw [e] at q
      have q : Pst K E g1 H1 (Rp K) Q (if (ds.all fun d => sh 7 d) = true then .ok (.bl ds.isEmpty) Ω1 else .bad) := q
      obtain ⟨rfl, eo⟩ := lsAt_some e
      obtain ⟨hw, vs, k1, k2, k3⟩ := o1.at_ i _ eo
      have ev := r1.obj_inv
      subst ev
      by_cases c : (ds.all fun d => sh 7 d) = true
      · rw [if_pos c] at q
        refine ⟨by show 0 ≤ sizeLine; exact Nat.zero_le _, fun p hp => ?_⟩
        have f2 : Ext g1 H1 g1 (L2.upd H1 p (.lst [])) := Ext.new hp
        have k1' := f2.same _ _ k1
        have rl := RpL.step f2.fr.toGSt _ _ k2
        have d1 : Dp K (L2.upd H1 p (.lst [])) (.ref (g1.adr (.obj i))) (.list (toPs ds)) := .lst (SqL.of k1') (dps_of 7 ds vs c rl)
        have d2 : Dp K (L2.upd H1 p (.lst [])) (.ref p) (.list []) := .lst (SqL.of upd_same) .nil
        have sh1 : SeqAt.shaped (.list (toPs ds)) = true := by
          show (PyData.canLay0 (.list (toPs ds)) && decide ((PyData.list (toPs ds)).depth ≤ 64)) = true
          have e1 : PyData.canLay0 (.list (toPs ds)) = true := by
            simp only [PyData.canLay0]
            exact lays_of 7 ds vs c rl
          rw [e1, Bool.true_and]
          refine decide_eq_true ?_
          have := depths_of 7 ds c
          simp only [PyData.depth]
          omega
        refine ⟨.list (toPs ds), .list [], d1, d2, sh1, by rfl, ?_⟩
        have e2 : PyData.eqv (.list (toPs ds)) (.list []) = ds.isEmpty := by
          cases ds with
          | nil => rfl
          | cons d r => simp only [toPs]; rfl
        rw [e2]
        exact q g1 _ _ f2.fr (o1.ext f2) Rp.bl
      · rw [if_neg c] at q
        exact q.elim)
theorem pd_nilO {p2 : Pos} (hu : X.A.units + 65 < cLine) (ha : PD X K E a ta da) (hm : behindInMarks .Eq (.List [] p2) = false := by first | exact nomark _ | rfl) :
    PD X K E (.Compare a [.Eq] [.List [] p2] pos) (tOp (rEqD K) ta (tLst tNil)) (dNilO da) := by
  obtain ⟨k, pa, qa⟩ := ha
  subst k
  exact ⟨rfl, pe_cmpR (op_eqD (by omega)) pa (pe_lst pa_nil) hm, td_nilO qa⟩
end
end Fm
/-! Fm, part 22: dicts with text keys; stores into objects. -/
namespace Fm
open PySem PySem.Spec L2
open PyProof.Rows hiding St

section
variable {K : PySem.W.Frag} {E : XK} {g : G} {H : Hp} {i : Nat} {f : Str} {d : D} {v : V}
/-! ### the dict's pairs -/
def kS (vs : List (Str × V)) : List (Key × V) := vs.map fun p => ((.inr p.1 : Key), p.2)
theorem valV_kS (f : Str) : ∀ vs : List (Str × V), valV (kS vs) (.inr f) = vs.lookup f
  | [] => rfl
  | (k, w) :: vs => by
    rw [List.lookup_cons]
    show valV ((.inr k, w) :: kS vs) (.inr f) = _
    cases q : f == k with
    | true =>
      have e : f = k := beq_iff_eq.mp q
      subst e
      exact valV_pos rfl
    | false =>
      have e : f ≠ k := beq_eq_false_iff_ne.mp q
      rw [valV_neg (fun z => e (Sum.inr.inj z).symm)]
      exact valV_kS f vs
theorem putK_kS {vs : List (Str × V)} (hn : (vs.map (·.1)).Nodup) : putK (kS vs) (.inr f) v = kS (putF f v vs) := by
  have aux : ∀ (vs : List (Str × V)), f ∉ vs.map (·.1) → (kS vs).map (fun kv => if kv.1 = (.inr f : Key) then (kv.1, v) else kv) = kS vs := by
    intro vs
    induction vs with
    | nil => intro _; rfl
    | cons p vs ih =>
      intro h
      rw [List.map_cons, List.mem_cons, not_or] at h
      show (if (.inr p.1 : Key) = .inr f then ((.inr p.1 : Key), v) else (.inr p.1, p.2)) :: List.map _ (kS vs) = _
      rw [if_neg fun z => h.1 (Sum.inr.inj z).symm, ih h.2] <;> rfl
  have any : ∀ (vs : List (Str × V)), ((kS vs).any fun kv => decide (kv.1 = (.inr f : Key))) = decide (f ∈ vs.map (·.1)) := by
    intro vs
    induction vs with
    | nil => rfl
    | cons p vs ih =>
      show (decide ((.inr p.1 : Key) = .inr f) || (kS vs).any fun kv => decide (kv.1 = (.inr f : Key))) = _
      rw [ih]
      by_cases e : p.1 = f
      · subst e
        simp
      · have e' : ¬ f = p.1 := fun z => e z.symm
        simp [e, e']
  unfold putK
  rw [any]
  induction vs with
  | nil => rfl
  | cons p vs ih =>
    rw [List.map_cons, List.nodup_cons] at hn
    obtain ⟨k, w⟩ := p
    show _ = kS (if k = f then (k, v) :: vs else (k, w) :: putF f v vs)
    by_cases e : k = f
    · subst e
      rw [if_pos rfl, if_pos (by simp)]
      show (if (.inr k : Key) = .inr k then ((.inr k : Key), v) else _) :: List.map _ (kS vs) = _
      rw [if_pos rfl, aux vs hn.1] <;> rfl
    · rw [if_neg e]
      have ih' := ih hn.2
      by_cases c : f ∈ vs.map (·.1)
      · rw [if_pos (decide_eq_true c)] at ih'
        rw [if_pos (decide_eq_true (by rw [List.map_cons]; exact List.mem_cons_of_mem _ c))]
        show (if (.inr k : Key) = .inr f then ((.inr k : Key), v) else (.inr k, w)) :: List.map _ (kS vs) = _
        rw [if_neg fun z => e (Sum.inr.inj z), ih'] <;> rfl
      · rw [if_neg (by simpa using c)] at ih'
        have c2 : f ∉ ((k, w) :: vs).map (·.1) := by
          rw [List.map_cons, List.mem_cons, not_or]
          exact ⟨fun z => e z.symm, c⟩
        rw [if_neg (by rw [decide_eq_false c2]; exact Bool.false_ne_true)]
        show (.inr k, w) :: (kS vs ++ [(.inr f, v)]) = (.inr k, w) :: kS (putF f v vs)
        rw [ih']
end
section
variable {X : Cx} {K : PySem.W.Frag} {E : XK} {ta te : TE} {da de : DE} {tas : TA} {das : DA} {a b e : Expr} {es : List Expr} {c f : Str} {pos p : Pos} {i : Nat}
/-! ### d["k"] -/
def dKey (f : Str) (da : DE) : DE := fun ρ Ω => (da ρ Ω).bind fun x Ω1 => match dkAt Ω1 x with
  | some (_, fs) => lift (fdV fs f) Ω1
  | none => .bad
theorem td_key (ha : TD K E ta da) : TD K E (tDGet ta (tC (.str f))) (dKey f da) := fun g H Ω ρ σ Q S O h =>
  ha g H Ω ρ σ _ S O (Pst.bind h fun x Ω1 g1 H1 v f1 o1 r1 q => by
    cases e : dkAt Ω1 x with
    | none => rw [e] at q; exact q.elim
    | some t =>
      obtain ⟨i, fs⟩ := t
      rw [e] at q
      have q : Pst K E g1 H1 (Rp K) Q (lift (fdV fs f) Ω1) := q
      obtain ⟨rfl, eo⟩ := dkAt_some e
      obtain ⟨vs, k1, k2, k3⟩ := (o1.at_ i _ eo).2
      cases e2 : fdV fs f with
      | none => rw [e2] at q; exact q.elim
      | some d =>
        rw [e2] at q
        obtain ⟨w, l, rw'⟩ := k2.lookup e2
        refine ⟨g1.adr (.obj i), w, r1.obj_inv, .inl ⟨kS vs, .inr f, .inl k1, rfl, ?_⟩, q g1 H1 w Fr.refl o1 rw'⟩
        rw [valV_kS]
        exact l.symm)
theorem pd_key {j : Nat} (hu : X.A.units + 65 < cLine) (ha : PD X K E a ta da) (hs : NoSl (.Constant (.str f) j p) := by exact fun _ _ => rfl) : PD X K E (.Subscript a (.Constant (.str f) j p) pos) (tDGet ta (tC (.str f))) (dKey f da) := by
  obtain ⟨k, pe, td⟩ := ha
  subst k
  exact ⟨rfl, pe_dget (by omega) pe pe_str hs, td_key td⟩

/-! ### targets that store into objects -/
abbrev DGO := D → Env1 → Om → Option Om
abbrev DGOs := List D → Env1 → Om → Option Om
structure TDGO (K : PySem.W.Frag) (tg : TG) (dg : DGO) : Prop where
  run : ∀ g0 H0 g H Ω Ω' ρ σ d v Q, SR K g0 H0 g H Ω ρ σ → Rp K g H d v → dg d ρ Ω = some Ω' → (∀ g' H', GSt g H g' H' → SR K g0 H0 g' H' Ω' ρ σ → Q σ H') → tg v σ H Q
structure TDGOs (K : PySem.W.Frag) (tg : TGs) (dg : DGOs) : Prop where
  run : ∀ g0 H0 g H Ω Ω' ρ σ ds vs Q, SR K g0 H0 g H Ω ρ σ → RpL K g H ds vs → dg ds ρ Ω = some Ω' → (∀ g' H', GSt g H g' H' → SR K g0 H0 g' H' Ω' ρ σ → Q σ H') → tg vs σ H Q
def oNs0 : DGOs := fun ds _ Ω => match ds with
  | [] => some Ω
  | _ => none
def oNsC (dg : DGO) (dr : DGOs) : DGOs := fun ds ρ Ω => match ds with
  | d :: r => (dg d ρ Ω).bind (dr r ρ)
  | [] => none
theorem tdgos_nil : TDGOs K gNil oNs0 := ⟨fun g0 H0 g H Ω Ω' ρ σ ds vs Q S r e h => by
  cases ds with
  | nil =>
    cases e
    simp only [RpL] at r
    exact ⟨r, h g H GSt.refl S⟩
  | cons _ _ => cases e⟩
theorem tdgos_cons {tg : TG} {tgs : TGs} {dg : DGO} {dgs : DGOs} (h1 : TDGO K tg dg) (h2 : TDGOs K tgs dgs) : TDGOs K (gCons tg tgs) (oNsC dg dgs) := ⟨fun g0 H0 g H Ω Ω' ρ σ ds vs Q S r e h => by
  cases ds with
  | nil => cases e
  | cons d ds =>
    simp only [RpL] at r
    obtain ⟨v, r', rfl, r1, r2⟩ := r
    obtain ⟨Ω1, e1, e2⟩ := Option.bind_eq_some_iff.mp e
    exact ⟨v, r', rfl, h1.run g0 H0 g H Ω Ω1 ρ σ d v _ S r1 e1 fun g1 H1 f1 S1 => h2.run g0 H0 g1 H1 Ω1 Ω' ρ σ ds r' Q S1 (RpL.step f1 _ _ r2) e2 fun g2 H2 f2 S2 => h g2 H2 (f1.trans f2) S2⟩⟩
def oT (n : Nat) (dgs : DGOs) : DGO := fun d ρ Ω => match d with
  | .tup ds => if ds.length = n then dgs ds ρ Ω else none
  | _ => none
theorem tdgo_tup {n : Nat} {tgs : TGs} {dgs : DGOs} (h : TDGOs K tgs dgs) : TDGO K (gTup K n tgs) (oT n dgs) := ⟨fun g0 H0 g H Ω Ω' ρ σ d v Q S r e hq => by
  cases d with
  | tup ds =>
    obtain ⟨a, vs, rfl, q, rl, _⟩ := r.tup_inv
    have e' : (if ds.length = n then dgs ds ρ Ω else none) = some Ω' := e
    by_cases c : ds.length = n
    · rw [if_pos c] at e'
      exact ⟨a, vs, rfl, q, by rw [rl.length]; exact c, h.run g0 H0 g H Ω Ω' ρ σ ds vs Q S rl e' hq⟩
    · rw [if_neg c] at e'
      cases e'
  | _ => cases e⟩
/-- o.f = .., o a name -/
def oFld (c f : Str) (i : Nat) : DGO := fun d ρ Ω => match ρ[i]? with
  | some (.val x) => match insAt Ω c x with
    | some (j, fs) => if fs.length < 800 then some (Ω.set j (.ins c (putD f d fs))) else none
    | none => none
  | _ => none
def gFldT (K : PySem.W.Frag) (to : TE) (f : Str) : TG := fun v σ H Q => to σ H fun x H1 => ∃ a C dx fs, x = .ref a ∧ H1 a = some (.ins C dx fs) ∧ Cls K C ∧ NoAttr K C f ∧ fs.length < 1000 ∧ Q σ (L2.upd H1 a (.ins C dx (putF f v fs)))
theorem pg_fldT {o : Expr} {to : TE} (ho : PE X o to) : PG X (.Attribute o f pos) (gFldT X.K to f) := by
  refine ⟨fun pins s σ H v u Q I r h => ?_⟩
  rw [PySem.assign_Attribute]
  refine wpAny_bind (wpAny_holding (thn (ho.run pins s σ H _ I h) fun ov s1 ⟨x, H1, I1, r1, a, C, dx, fs, ex, ea, c, n, l, q1⟩ => ?_))
  subst ex
  obtain rfl : ov = Value.ref a := r1
  refine wpAny_bind (wpAny_standAt (wpAny_bind (wpAny_holding (setattr_ok I1 ea c n l r fun s3 I3 => ?_))))
  exact wpAny_release ⟨σ, _, I3, q1⟩
theorem nins {C dx : Addr} {xs : List (Str × V)} : (∀ ys, HO.ins C dx xs ≠ .tup ys) ∧ ∀ x u, HO.ins C dx xs ≠ .frz x u := ⟨(fun _ z => by cases z), (fun _ _ z => by cases z)⟩
theorem tdgo_fld (C : Cls K (He.ga K c)) (N : NoAttr K (He.ga K c) f) : TDGO K (gFldT K (tVar i) f) (oFld c f i) := ⟨fun g0 H0 g H Ω Ω' ρ σ d v Q S r e hq => by
  unfold oFld at e
  split at e
  · rename_i x hx
    cases q : insAt Ω c x with
    | none => rw [q] at e; cases e
    | some t =>
      obtain ⟨j, fs⟩ := t
      rw [q] at e
      have e : (if fs.length < 800 then some (Ω.set j (.ins c (putD f d fs))) else none) = some Ω' := e
      by_cases z : fs.length < 800
      · rw [if_pos z] at e
        cases e
        obtain ⟨rfl, eo⟩ := insAt_some q
        obtain ⟨hw, dx, vs, k1, k2, k3, k4⟩ := S.ob.at_ j _ eo
        obtain ⟨w, hs, rw'⟩ := S.sl.get hx
        have ev := rw'.obj_inv
        subst ev
        refine ⟨_, hs, _, _, dx, vs, rfl, k1, C, N, by rw [k2.length]; omega, ?_⟩
        have f3 : Fr g H g (L2.upd H (g.adr (.obj j)) (.ins (He.ga K c) dx (putF f v vs))) := fr_obj k1 nins hw
        refine hq g _ f3.toGSt (S.fr f3 (S.ob.updO (List.getElem?_eq_some_iff.mp eo).1 hw f3.toGSt ⟨dx, putF f v vs, upd_same, ?_, putD_nodup k3, ?_⟩))
        · exact FdsR.put (k2.keepO f3.toGSt (fun _ => rfl) fun b x u e1 e2 => by
            rw [upd_ne]
            · exact e2
            · rintro rfl
              rw [hw] at e1
              cases e1) (Rp.step f3.toGSt _ _ r)
        · have := putD_length (f := f) (d := d) fs
          omega
      · rw [if_neg z] at e
        cases e
  · cases e⟩
/-- d["k"] = .., d a name -/
def oKey (f : Str) (i : Nat) : DGO := fun d ρ Ω => match ρ[i]? with
  | some (.val x) => match dkAt Ω x with
    | some (j, fs) => if fs.length < 800 then some (Ω.set j (.dk (putD f d fs))) else none
    | none => none
  | _ => none
theorem ndk {xs : List (Key × V)} : (∀ ys, HO.dK xs ≠ .tup ys) ∧ ∀ x u, HO.dK xs ≠ .frz x u := ⟨(fun _ z => by cases z), (fun _ _ z => by cases z)⟩
theorem tdgo_key : TDGO K (gSub (tVar i) (tC (.str f)) rSetD) (oKey f i) := ⟨fun g0 H0 g H Ω Ω' ρ σ d v Q S r e hq => by
  unfold oKey at e
  split at e
  · rename_i x hx
    cases q : dkAt Ω x with
    | none => rw [q] at e; cases e
    | some t =>
      obtain ⟨j, fs⟩ := t
      rw [q] at e
      have e : (if fs.length < 800 then some (Ω.set j (.dk (putD f d fs))) else none) = some Ω' := e
      by_cases z : fs.length < 800
      · rw [if_pos z] at e
        cases e
        obtain ⟨rfl, eo⟩ := dkAt_some q
        obtain ⟨hw, vs, k1, k2, k3, k4⟩ := S.ob.at_ j _ eo
        obtain ⟨w, hs, rw'⟩ := S.sl.get hx
        have ev := rw'.obj_inv
        subst ev
        have hl : (kS vs).length = fs.length := by
          unfold kS
          rw [List.length_map, k2.length]
        refine ⟨_, hs, g.adr (.obj j), _, rfl, .inl ⟨kS vs, .inr f, k1, rfl, ?_, rfl⟩, ?_⟩
        · rw [hl, sizeLine_eq]
          omega
        · rw [putK_kS (by rw [k2.keys]; exact k3)]
          have f3 : Fr g H g (L2.upd H (g.adr (.obj j)) (.dK (kS (putF f v vs)))) := fr_obj k1 ndk hw
          refine hq g _ f3.toGSt (S.fr f3 (S.ob.updO (List.getElem?_eq_some_iff.mp eo).1 hw f3.toGSt ⟨putF f v vs, upd_same, ?_, putD_nodup k3, ?_⟩))
          · exact FdsR.put (k2.keepO f3.toGSt (fun _ => rfl) fun b x u e1 e2 => by
              rw [upd_ne]
              · exact e2
              · rintro rfl
                rw [hw] at e1
                cases e1) (Rp.step f3.toGSt _ _ r)
          · have := putD_length (f := f) (d := d) fs
            omega
      · rw [if_neg z] at e
        cases e
  · cases e⟩
/-- the statement -/
def dSto (de : DE) (dg : DGO) : DS := fun ρ Ω => (de ρ Ω).fl fun d Ω1 => match dg d ρ Ω1 with
  | some Ω2 => .nx ρ Ω2
  | none => .bad
theorem tds_sto {tg : TG} {dg : DGO} (h1 : TD K E te de) (h2 : TDGO K tg dg) : TDS K E (tAsg te tg) (dSto de dg) := fun g0 H0 g H Ω ρ σ D s h =>
  h1 g H Ω ρ σ _ s.sl s.ob (PstS.bind s.fe h fun x Ω1 g1 H1 b f1 o1 r1 h' => by
    cases e : dg x ρ Ω1 with
    | none => rw [e] at h'; exact h'.elim
    | some Ω2 =>
      rw [e] at h'
      exact h2.run g0 H0 g1 H1 Ω1 Ω2 ρ σ x b _ (s.fr f1 o1) r1 e fun g2 H2 f2 s2 => h' g2 H2 σ f2 s2)
structure PDGO (X : Cx) (K : PySem.W.Frag) (t : Expr) (tg : TG) (dg : DGO) : Prop where
  k : X.K = K
  pg : PG X t tg
  td : TDGO K tg dg
structure PDGOs (X : Cx) (K : PySem.W.Frag) (ts : List Expr) (tg : TGs) (dg : DGOs) : Prop where
  k : X.K = K
  pg : PGs X ts tg
  td : TDGOs K tg dg
theorem po_fld {x : Str} {p2 : Pos} (i : Nat) (C : Cls K (He.ga K c)) (N : NoAttr K (He.ga K c) f) (hN : X.N[i]? = some x := by rfl) (hv : Vis X.env.scope x := by first | exact Or.inl rfl | exact Or.inr (Or.inl rfl) | exact Or.inr (Or.inr rfl)) (hd : (x == ("__debug__" : Str)) = false := by decide)
    (hcd : (x == ("__classdict__" : Str)) = false := by decide) (hk : X.K = K := by rfl) : PDGO X K (.Attribute (.Name x p2) f pos) (gFldT K (tVar i) f) (oFld c f i) := by
  subst hk
  exact ⟨rfl, pg_fldT (pe_var hN hv hd hcd), tdgo_fld C N⟩
theorem po_key {x : Str} {p2 : Pos} {j : Nat} (i : Nat) (hu : X.A.units + 65 < cLine) (hN : X.N[i]? = some x := by rfl) (hv : Vis X.env.scope x := by first | exact Or.inl rfl | exact Or.inr (Or.inl rfl) | exact Or.inr (Or.inr rfl)) (hd : (x == ("__debug__" : Str)) = false := by decide)
    (hcd : (x == ("__classdict__" : Str)) = false := by decide) (hk : X.K = K := by rfl) (ha : ∀ v, assign (.Subscript (.Name x p2) (.Constant (.str f) j p) pos) X.env v = (do
      let ov ← holding [v] (eval (.Name x p2) X.env)
      let iv ← holding [v, ov] (eval (.Constant (.str f) j p) X.env)
      standAt pos
      holding [v, ov, iv] (setItem ov iv v)
      release [v, ov, iv] []) := by intro _; rfl) : PDGO X K (.Subscript (.Name x p2) (.Constant (.str f) j p) pos) (gSub (tVar i) (tC (.str f)) rSetD) (oKey f i) := by
  subst hk
  exact ⟨rfl, pg_sub (pe_var hN hv hd hcd) pe_str (set_dict (by omega)) ha, tdgo_key⟩
theorem pos_0 (hk : X.K = K := by rfl) : PDGOs X K [] gNil oNs0 := ⟨hk, pgs_nil, tdgos_nil⟩
theorem pos_c {t : Expr} {ts : List Expr} {tg : TG} {tgs : TGs} {dg : DGO} {dgs : DGOs} (h1 : PDGO X K t tg dg) (h2 : PDGOs X K ts tgs dgs) (hs : (assignEach (t :: ts) X.env).map (·.2) = assign t X.env :: (assignEach ts X.env).map (·.2) := by rfl) : PDGOs X K (t :: ts) (gCons tg tgs) (oNsC dg dgs) :=
  ⟨h1.k, pgs_cons h1.pg h2.pg hs, tdgos_cons h1.td h2.td⟩
theorem po_tup {ts : List Expr} {k n : Nat} {tgs : TGs} {dgs : DGOs} (hc : X.calm = true) (h : PDGOs X K ts tgs dgs) (hn : (assignEach ts X.env).length = n := by rfl) (hst : (assignEach ts X.env).findIdx? (·.1) = none := by rfl) : PDGO X K (.Tuple ts k pos) (gTup K n tgs) (oT n dgs) := by
  obtain ⟨k1, pg, td⟩ := h
  subst k1
  exact ⟨rfl, pg_tup hc pg hn hst, tdgo_tup td⟩
theorem pd_sto {t : Expr} {tg : TG} {dg : DGO} (h1 : PD X K E e te de) (h2 : PDGO X K t tg dg) (hs : swapsWithSole [t] e pos.line X.env = pure false := by rfl) (hw : swappedStores [t] e X.env = pure none := by rfl)
    (h3 : (assignEach [t] X.env).map (·.2) = [assign t X.env] := by rfl) : PDS X K E (.Assign [t] e pos) (tAsg te tg) (dSto de dg) :=
  ⟨h1.k, ps_asg h1.pe h2.pg hs hw h3, tds_sto h1.td h2.td⟩

/-! ### {"k": v, ..} -/
def dDisp (ks : List Str) (das : DA) : DE := fun ρ Ω => (das ρ (Ω ++ [.dk []])).bind fun xs Ω2 => match Ω2[Ω.length]? with
  | some (.dk []) => if xs.length = ks.length then .ok (.obj Ω.length) (Ω2.set Ω.length (.dk (ks.zip (xs.map .val)))) else .bad
  | _ => .bad
/-- the pairs of the display -/
structure PDP (X : Cx) (K : PySem.W.Frag) (E : XK) (pos : Pos) (keys : List (Option Expr)) (values : List Expr) (trs : List (TE × TE)) (ks : List Str) (das : DA) : Prop where
  k : X.K = K
  pp : PPs X pos keys values trs
  td : ∀ g H Ω ρ σ (Q : List (V × V) → Hp → Prop), Sl K g H ρ σ → Ob K g H Ω → Pst K E g H (RpL K) (fun vs H' => Q ((ks.map V.str).zip vs) H' ∧ vs.length = ks.length) (das ρ Ω) → tPairs trs σ H Q
theorem pdp_nil (hk : X.K = K := by rfl) : PDP X K E pos [] [] [] [] dNil := ⟨hk, pps_nil, fun g H Ω ρ σ Q S O h => (h g H [] Fr.refl O RpL.nil).1⟩
theorem pdp_cons {keys : List (Option Expr)} {values : List Expr} {trs : List (TE × TE)} {ks : List Str} {j : Nat} (ha : PD X K E a ta da) (hr : PDP X K E pos keys values trs ks das) :
    PDP X K E pos (some (.Constant (.str f) j p) :: keys) (a :: values) ((tC (.str f), ta) :: trs) (f :: ks) (dCons da das) := by
  refine ⟨ha.k, pps_cons pe_str ha.pe hr.pp, fun g H Ω ρ σ Q S O h => ?_⟩
  show ta σ H _
  refine ha.td g H Ω ρ σ _ S O (Pst.bind h fun x Ω1 g1 H1 v f1 o1 r1 h1 => ?_)
  refine hr.td g1 H1 Ω1 ρ σ _ (S.fr f1) o1 (Pst.bind h1 fun xs Ω2 g2 H2 vs f2 o2 r2 h2 => ?_)
  obtain ⟨h3, h4⟩ := h2 g2 H2 (v :: vs) Fr.refl o2 (RpL.cons (Rp.step f2.toGSt _ _ r1) r2)
  exact ⟨h3, by simpa using h4⟩
theorem mergeK_kS : ∀ (vs : List (Str × V)) (ac : List (Str × V)), ((ac ++ vs).map (·.1)).Nodup → mergeK (kS ac) (kS vs) = kS (ac ++ vs)
  | [], ac, _ => by rw [List.append_nil] <;> rfl
  | (k, v) :: vs, ac, h => by
    have h2 : ((ac ++ [(k, v)] ++ vs).map (·.1)).Nodup := by rw [List.append_assoc]; exact h
    have hn : (ac.map (·.1)).Nodup := by
      rw [List.map_append] at h
      exact (List.nodup_append.mp h).1
    have hk : k ∉ ac.map (·.1) := fun z => by
      rw [List.map_append, List.nodup_append] at h
      exact h.2.2 k z k (by simp) rfl
    have e1 : putK (kS ac) (.inr k) v = kS (ac ++ [(k, v)]) := by
      rw [putK_kS hn]
      congr 1
      revert hk
      clear h h2 hn
      induction ac with
      | nil => intro _; rfl
      | cons q ac ih =>
        intro hk
        rw [List.map_cons, List.mem_cons, not_or] at hk
        show (if q.1 = k then (q.1, v) :: ac else (q.1, q.2) :: putF k v ac) = _
        rw [if_neg fun z => hk.1 z.symm, ih hk.2] <;> rfl
    show mergeK (putK (kS ac) (.inr k) v) (kS vs) = _
    rw [e1, mergeK_kS vs _ h2, List.append_assoc] <;> rfl
theorem fdsR_zip {g : G} {H : Hp} {n : Nat} : ∀ {ks : List Str} {xs : List D} {vs : List V}, RpL K g H xs vs → FdsR K g H n (ks.zip (xs.map .val)) (ks.zip vs)
  | [], _, _, _ => by simp [FdsR]
  | k :: ks, [], vs, r => by
    simp only [RpL] at r
    subst r
    simp [FdsR]
  | k :: ks, x :: xs, vs, r => by
    simp only [RpL] at r
    obtain ⟨v, r', rfl, r1, r2⟩ := r
    exact ⟨v, _, rfl, r1, fdsR_zip r2⟩
theorem zip_keys {β : Type} : ∀ {ks : List Str} {xs : List β}, xs.length = ks.length → (ks.zip xs).map (·.1) = ks
  | [], [], _ => rfl
  | k :: ks, x :: xs, h => by
    rw [List.zip_cons_cons, List.map_cons, zip_keys (by simpa using h)]
theorem td_disp {keys : List (Option Expr)} {values : List Expr} {trs : List (TE × TE)} {ks : List Str} (h : PDP X K E pos keys values trs ks das) (hn : ks.Nodup) (h15 : ks.length ≤ 15) : TD K E (tDisp trs) (dDisp ks das) := fun g H Ω ρ σ Q S O q => by
  intro p hp
  have hk : ∀ b u, H b = some u → L2.upd H p (.dK []) b = some u := fun b u e => by
    rw [upd_ne (ne_of_none e hp)]
    exact e
  have f1 := fr_newO O hp hk
  have o1 := O.newO hp hk (s := .dk []) ⟨[], by rw [G.newO_adr, upd_same] <;> rfl, rfl, List.nodup_nil, by decide⟩
  have ro : Rp K (g.newO Ω.length p) (L2.upd H p (.dK [])) (.obj Ω.length) (.ref p) := rp_newO upd_same
  refine h.td _ _ (Ω ++ [.dk []]) ρ σ _ (S.fr f1) o1 (Pst.bind (Pst.fr f1 q) fun xs Ω2 g2 H2 vs f2 o2 r2 q2 => ?_)
  have q2 : Pst K E g2 H2 (Rp K) Q (match Ω2[Ω.length]? with | some (.dk []) => if xs.length = ks.length then .ok (.obj Ω.length) (Ω2.set Ω.length (.dk (ks.zip (xs.map .val)))) else .bad | _ => .bad) := q2
  split at q2
  · rename_i eo
    by_cases z : xs.length = ks.length
    · rw [if_pos z] at q2
      obtain ⟨hw, ws, k1, k2, _⟩ := o2.at_ _ _ eo
      have e0 : ws = [] := k2
      subst e0
      have ea := (Rp.step f2.toGSt _ _ ro).obj_inv
      have ea' : p = g2.adr (.obj Ω.length) := by injection ea
      have lv : vs.length = ks.length := by rw [r2.length, z]
      have lz : ((ks.zip vs).map (·.1)) = ks := zip_keys lv
      refine ⟨⟨by rw [ea']; exact k1, kS (ks.zip vs), ?_, ?_, ?_⟩, lv⟩
      · unfold kS
        rw [List.map_map]
        have : ∀ (ks : List Str) (vs : List V), (ks.map V.str).zip vs = (ks.zip vs).map ((fun kv : Key × V => (kV kv.1, kv.2)) ∘ fun p => ((.inr p.1 : Key), p.2)) := by
          intro ks
          induction ks with
          | nil => intro vs; rfl
          | cons k ks ih =>
            intro vs
            cases vs with
            | nil => rfl
            | cons v vs =>
              rw [List.map_cons, List.zip_cons_cons, List.zip_cons_cons, List.map_cons, ih] <;> rfl
        exact this ks vs
      · unfold kS
        rw [List.length_map, List.length_zip]
        omega
      · have em : mergeK [] (kS (ks.zip vs)) = kS (ks.zip vs) := mergeK_kS _ [] (by rw [List.nil_append, lz]; exact hn)
        rw [em, ea']
        have f3 : Fr g2 H2 g2 (L2.upd H2 (g2.adr (.obj Ω.length)) (.dK (kS (ks.zip vs)))) := fr_obj k1 ndk hw
        refine q2 g2 _ _ f3 (o2.updO (List.getElem?_eq_some_iff.mp eo).1 hw f3.toGSt ⟨ks.zip vs, upd_same, ?_, ?_, ?_⟩) ?_
        · exact fdsR_zip (RpL.step f3.toGSt _ _ r2)
        · rw [zip_keys (by rw [List.length_map]; exact z)]
          exact hn
        · rw [List.length_zip]
          omega
        · have r5 := Rp.step (f2.trans f3).toGSt _ _ ro
          rw [ea'] at r5
          exact r5
    · rw [if_neg z] at q2
      exact q2.elim
  · exact q2.elim
theorem pd_disp {keys : List (Option Expr)} {values : List Expr} {trs : List (TE × TE)} {ks : List Str} (h : PDP X K E pos keys values trs ks das) (hn : ks.Nodup := by decide) (h15 : ks.length ≤ 15 := by decide) (hall : keys.all (·.isSome) = true := by rfl) (hl : keys.length = values.length := by rfl)
    (h0 : keys ≠ [] := by exact fun z => by cases z) (hk15 : keys.length ≤ 15 := by decide) : PD X K E (.Dict keys values pos) (tDisp trs) (dDisp ks das) := ⟨h.k, pe_disp h.pp hall hl h0 hk15, td_disp h hn h15⟩
end
end Fm
/-! Fm, part 23: a tuple that has no dict (t.index(x)); x in it; xs * n. -/
namespace Fm
open PySem PySem.Spec L2
open PyProof.Rows hiding St

def tpAt (Ω : Om) : D → Option (Nat × List D)
  | .obj i => match Ω[i]? with
    | some (.tp ds) => some (i, ds)
    | _ => none
  | _ => none
theorem tpAt_some {Ω : Om} {x : D} {i : Nat} {ds : List D} (h : tpAt Ω x = some (i, ds)) : x = .obj i ∧ Ω[i]? = some (.tp ds) := by
  unfold tpAt at h
  split at h
  · split at h
    · rename_i e
      cases h
      exact ⟨rfl, e⟩
    · cases h
  · cases h
section
variable {X : Cx} {K : PySem.W.Frag} {E : XK} {ta tb te : TE} {da db de : DE} {tas : TA} {das : DA} {a b e : Expr} {es : List Expr} {x y : Str} {pos apos p p1 : Pos}
/-! ### tuple(list) -/
def rTupN (K : PySem.W.Frag) : List V → Hp → VK → Prop := fun xs H Q => ∃ p ys, xs = [.ref p] ∧ SqL K H p ys ∧ ∀ l ob, H l = none → ob.dict = none → Q (.ref l) (L2.upd H l (.frz ob (.tup ys)))
theorem call_tupN : CallR X (.type "tuple") (rTupN X.K) := by
  intro pins s σ H xs us Q I r h
  obtain ⟨p, ys, rfl, hq, q⟩ := h
  cases r with
  | cons rx rr =>
    cases rr
    cases rx
    obtain ⟨its, r', pl, hz⟩ := I.list hq
    have hlen := r'.length
    refine call_tuple_list pl.isList (fun h' kp => ?_) (by simp only [List.size_toArray] <;> omega)
    have I1 : Inv X pins σ H { s with heap := h' } := I.kept (t' := s.toks) kp
    have I2 : Inv X pins σ (L2.upd H h'.objs.size (.frz { cls := .type "tuple", data := .seq its.toArray } (.tup ys))) { s with heap := h'.push { cls := .type "tuple", data := .seq its.toArray } } :=
      I1.laid (t' := s.toks) (fun b o e => Heap.get?_push_of_some _ e) (Nat.le_refl _) (show ObjOk X.prog X.w _ _ _ (.frz _ (.tup ys)) from ⟨Heap.get?_push_size _ rfl, hz, its, r', IsTup.new _ _⟩)
    exact ⟨.ref h'.objs.size, _, I2, rfl, q _ _ (I1.hok.fresh (Nat.le_refl _)) rfl⟩
def dTupN (das : DA) : DE := fun ρ Ω => (das ρ Ω).bind fun xs Ω1 => match xs with
  | [.lst ds] => .ok (.obj Ω1.length) (Ω1 ++ [.tp ds])
  | _ => .bad
theorem td_tupN (h1 : TDA K E tas das) : TD K E (tCB (rTupN K) tas) (dTupN das) := fun g H Ω ρ σ Q S O h =>
  h1 g H Ω ρ σ _ S O (Pst.bind h fun xs Ω1 g1 H1 vs f1 o1 r1 q => by
    have key : ∃ ds, xs = [.lst ds] := by
      revert q
      split
      · exact fun _ => ⟨_, rfl⟩
      · exact fun z => z.elim
    obtain ⟨ds, rfl⟩ := key
    obtain ⟨v, rfl, rv⟩ := r1.one
    obtain ⟨a, ws, rfl, lk, rl, z⟩ := rv.lst_inv
    refine ⟨a, ws, rfl, lk.seq, fun p ob hp hd => ?_⟩
    have hk : ∀ b u, H1 b = some u → L2.upd H1 p (.frz ob (.tup ws)) b = some u := fun b u e => by
      rw [upd_ne (ne_of_none e hp)]
      exact e
    have f2 := fr_newO o1 hp hk
    exact q _ _ (.ref p) f2 (o1.newO hp hk (s := .tp ds) ⟨ws, ob, by rw [G.newO_adr, upd_same], hd, RpL.step f2.toGSt _ _ rl, z⟩) (rp_newO upd_same))
theorem pd_tupN (hm : X.mg "tuple" = none) (h : PDA X K E (e :: es) tas das) (hg : Gl X "tuple" := by rfl) (hs : starEach (e :: es) X.env = (false, eval e X.env) :: starEach es X.env := by rfl) (hpl : (backTo pos (starEach es X.env)).any (·.1) = false := by rfl) :
    PD X K E (.Call (.Name "tuple" p) (e :: es) [] pos) (tCB (rTupN K) tas) (dTupN das) := by
  obtain ⟨k, pa, td⟩ := h
  subst k
  exact ⟨rfl, pe_callTy call_tupN hg hm (by decide +kernel) pa (by decide) (by decide) hs hpl, td_tupN td⟩
/-! ### x in t -/
def dInN (da db : DE) : DE := fun ρ Ω => (da ρ Ω).bind fun x Ω1 => (db ρ Ω1).bind fun y Ω2 => match tpAt Ω2 y with
  | some (_, ds) => lift (fIn x (.tup ds)) Ω2
  | none => .bad
theorem td_inN (ha : TD K E ta da) (hb : TD K E tb db) : TD K E (tOp (rInU K) ta tb) (dInN da db) := fun g H Ω ρ σ Q S O h =>
  ha g H Ω ρ σ _ S O (Pst.bind h fun x Ω1 g1 H1 v f1 O1 r1 h1 =>
    hb g1 H1 Ω1 ρ σ _ (S.fr f1) O1 (Pst.bind h1 fun y Ω2 g2 H2 w f2 O2 r2 h2 => by
      cases e : tpAt Ω2 y with
      | none => rw [e] at h2; exact h2.elim
      | some t =>
        obtain ⟨i, ds⟩ := t
        rw [e] at h2
        have h2 : Pst K E g2 H2 (Rp K) Q (lift (fIn x (.tup ds)) Ω2) := h2
        obtain ⟨rfl, eo⟩ := tpAt_some e
        obtain ⟨_, vs, ob, k1, k0, k2, k3⟩ := O2.at_ i _ eo
        have ev := r2.obj_inv
        subst ev
        have rx := Rp.step f2.toGSt _ _ r1
        rw [fIn_tup] at h2
        by_cases c : (sh 8 x && ds.all fun d => sh 8 d) = true
        · rw [if_pos c] at h2
          obtain ⟨c1, c2⟩ := Bool.and_eq_true_iff.mp c
          refine .inr (.inl ⟨toP x, toPs ds, dp_of 8 x v c1 rx, .tup (.inl (.inr ⟨ob, k1⟩)) (dps_of 8 ds vs c2 k2), shaped_of (by decide) c1 rx, lays_of 8 ds vs c2 k2, ?_⟩)
          rw [toPs_any]
          exact h2 g2 H2 _ Fr.refl O2 Rp.bl
        · rw [if_neg c] at h2
          exact h2.elim))
theorem pd_inN (hu : X.A.units + 65 < cLine) (ha : PD X K E a ta da) (hb : PD X K E b tb db) (hm : behindInMarks .In b = false := by first | exact nomark _ | rfl) : PD X K E (.Compare a [.In] [b] pos) (tOp (rInU K) ta tb) (dInN da db) := by
  obtain ⟨k, pa, qa⟩ := ha
  subst k
  exact ⟨rfl, pe_cmpR (or_in hu) pa hb.pe hm, td_inN qa hb.td⟩
theorem pdt_inN (hu : X.A.units + 65 < cLine) (ha : PD X K E a ta da) (hb : PD X K E b tb db) (hm : behindInMarks .In b = false := by first | exact nomark _ | rfl) : PDT X K E (.Compare a [.In] [b] pos) (tTest (tOp (rInU K) ta tb)) (dTest (dInN da db)) := by
  obtain ⟨k, pa, qa⟩ := ha
  subst k
  exact ⟨rfl, pt_cmpR (or_in hu) pa hb.pe hm, tdt_test (td_inN qa hb.td)⟩
/-! ### t.index(x) -/
def tBMT (r : V → List V → Hp → VK → Prop) (to : TE) (t : TA) : TE := fun σ H Q => to σ H fun x H1 => (∃ a ob vs, x = .ref a ∧ H1 a = some (.frz ob (.tup vs)) ∧ ob.dict = none) ∧ t σ H1 fun xs H2 => r x xs H2 Q
theorem pe_bmT {o : Expr} {to : TE} {t : TA} {name : Str} {cpos : Pos} {id : String} {r : V → List V → Hp → VK → Prop} (slot : PySem.Slot "tuple" name id) (hty : typeOf (.builtin id) = pure (.type "method_descriptor")) (hm : MtR X id r) (ho : PE X o to) (ha : PA X (e :: es) t)
    (hbase : attributeBase o name X.env (eval o X.env) = eval o X.env)
    (hfew : ((backTo cpos (starEach (e :: es) X.env)).all (fun x => !x.1) && (backToKw cpos (keywordEach [] X.env)).all (fun x => x.1.isSome)
      && decide ((e :: es).length + ([] : List Keyword).length + (if ([] : List Keyword).isEmpty then 0 else 1) < 30)) = true)
    (hline : (apos.endLine == cpos.line) = true) (hs : starEach (e :: es) X.env = (false, eval e X.env) :: starEach es X.env) (hplain : (backTo cpos (starEach es X.env)).any (·.1) = false) :
    PE X (.Call (.Attribute o name apos) (e :: es) [] cpos) (tBMT r to t) := by
  refine ⟨fun pins s σ H Q I h => ?_⟩
  refine wpAny_Call_method_late hbase hfew hline rfl (thn (ho.run pins s σ H _ I h) fun v s1 ⟨x, H1, I1, r1, ⟨t0, ob, vs0, ex, ef, ed⟩, q1⟩ => ?_)
  subst ex
  obtain rfl : v = Value.ref t0 := r1
  obtain ⟨eo, hz0, its0, rv0, pl0⟩ := I1.hok t0 _ ef
  refine ⟨"tuple", id, PySem.F.plainAttrs_tuple, slot, hty, pl0.typeIs, fun a e => by cases e; exact ⟨ob, eo, ed⟩, ?_⟩
  have hA := ha.run cpos pins s1 σ H1 _ I1 q1
  rw [hs] at hA ⊢
  refine Calls.callWith_builtin (by show (false || (backTo cpos (starEach es X.env)).any (·.1)) = false; rw [hplain] <;> rfl) (Calls.evalArgs_plain ?_)
  exact thn hA fun us s2 ⟨vs, H2, I2, r2, q2⟩ => hm pins s2 σ H2 (.ref t0) vs (.ref t0) us Q I2 rfl r2 q2
def rTIndexD (K : PySem.W.Frag) : V → List V → Hp → VK → Prop := fun x xs H Q => ∃ (a : Addr) (y : V) (d : PyData) (ds : List PyData) (j : Nat) (z : PyData), x = V.ref a ∧ xs = [y] ∧ Dp K H (V.ref a) (.tuple ds) ∧ Dp K H y d ∧
  SeqAt.shaped (.tuple ds) = true ∧ SeqAt.shaped d = true ∧ ds[j]? = some z ∧ PyData.eqv z d = true ∧ (∀ (m : Nat) (z' : PyData), m < j → ds[m]? = some z' → PyData.eqv z' d = false) ∧ Q (.int (j : Nat)) H
theorem mt_tIndexD (hu : X.A.units + 65 < cLine) : MtR X "tuple.index" (rTIndexD X.K) := by
  intro pins s σ H x xs v us Q I rx rxs h
  obtain ⟨a, y, d, ds, j, z, rfl, rfl, hl, hy, sl, sd, hz, hzj, hno, q⟩ := h
  cases rx
  cases rxs with
  | cons ry rt =>
    rename_i uy ut
    cases rt
    obtain ⟨bs, r1⟩ := Dp.reads I d y uy hy ry
    have hxs : PyData.canLayAll0 ds = true := SeqAt.canLay_of_shaped sl
    have hroom : X.A.units + 1 + min (PyData.depthAll ds) d.depth < cLine := room_in_shaped sd hu
    cases hl with
    | tup hs ha =>
      obtain ⟨its, rv, ⟨⟨cls, dd, dt, sls⟩, ho, hc, n, hdt⟩, hlen⟩ := I.tuple hs
      simp only at hc hdt
      subst hc
      subst hdt
      obtain ⟨as, h4⟩ := Dp.readsAll I ds _ its ha rv
      have hn : its.length = ds.length := SeqAt.ReadsAll.length ds its as h4
      have hmap : its.map (SeqAt.readOf s.heap) = ds := SeqAt.readsAll_map ds its as hxs h4
      obtain ⟨hjd, _⟩ := List.getElem?_eq_some_iff.mp hz
      have hjl : j < its.length := by omega
      have hj : j < its.toArray.size := by simpa using hjl
      have at_ : ∀ (m : Nat) (hm : m < its.toArray.size) (z' : PyData), ds[m]? = some z' → SeqAt.readOf s.heap its.toArray[m] = z' := by
        intro m hm z' hz'
        have hml : m < its.length := by simpa using hm
        rw [← hmap, List.getElem?_map, List.getElem?_eq_getElem hml] at hz'
        have e1 : SeqAt.readOf s.heap its[m] = z' := Option.some.inj (show some (SeqAt.readOf s.heap its[m]) = some z' from hz')
        simpa using e1
      refine call_meets PySem.F.slot_tuple_index ⟨_, ho, rfl⟩ PySem.F.entry_tuple_index (PySem.F.args_tuple_index_2 _ _)
        (TI.tuple_indexAt a its.toArray n dd sls uy (fun u => PyData.eqv (SeqAt.readOf s.heap u) d) j hj ?_ ?_) ⟨ho, SeqAt.items_eqAt (vs := its.toArray) (show ReadsAll s.heap its.toArray.toList ds as from h4) r1 hxs (SeqAt.canLay_of_shaped sd) hroom, ?_⟩
      · show PyData.eqv (SeqAt.readOf s.heap its.toArray[j]) d = true
        rw [at_ j hj z hz]
        exact hzj
      · intro m hm hmj
        have hmd : m < ds.length := by omega
        have hz' : ds[m]? = some ds[m] := List.getElem?_eq_getElem hmd
        show PyData.eqv (SeqAt.readOf s.heap its.toArray[m]) d = false
        rw [at_ m hm _ hz']
        exact hno m _ hmj hz'
      · exact ⟨.int (j : Nat), H, I.tok _, ⟨_, rfl⟩, q⟩
def dIndexN (da db : DE) : DE := fun ρ Ω => (da ρ Ω).bind fun x Ω1 => match tpAt Ω1 x with
  | some _ => (db ρ Ω1).bind fun y Ω2 => match tpAt Ω2 x with
    | some (_, ds) => lift (fIndex (.lst ds) y) Ω2
    | none => .bad
  | none => .bad
theorem td_indexN (ha : TD K E ta da) (hb : TD K E tb db) : TD K E (tBMT (rTIndexD K) ta (tCons tb tNil)) (dIndexN da db) := fun g H Ω ρ σ Q S O h =>
  ha g H Ω ρ σ _ S O (Pst.bind h fun x Ω1 g1 H1 v f1 O1 r1 q => by
    cases e : tpAt Ω1 x with
    | none => rw [e] at q; exact q.elim
    | some t =>
      obtain ⟨i0, ds0⟩ := t
      rw [e] at q
      obtain ⟨rfl, eo⟩ := tpAt_some e
      obtain ⟨_, vs0, ob, k1, k0, k2, k3⟩ := O1.at_ i0 _ eo
      have ev := r1.obj_inv
      subst ev
      refine ⟨⟨_, ob, vs0, rfl, k1, k0⟩, ?_⟩
      refine hb g1 H1 Ω1 ρ σ _ (S.fr f1) O1 (Pst.bind q fun y Ω2 g2 H2 w f2 O2 r2 q2 => ?_)
      cases e2 : tpAt Ω2 (.obj i0) with
      | none => rw [e2] at q2; exact q2.elim
      | some t2 =>
        obtain ⟨i, ds⟩ := t2
        rw [e2] at q2
        have q2 : Pst K E g2 H2 (Rp K) Q (lift (fIndex (.lst ds) y) Ω2) := q2
        obtain ⟨ei, eo2⟩ := tpAt_some e2
        cases ei
        obtain ⟨_, vs, ob2, k4, _, k5, k6⟩ := O2.at_ i0 _ eo2
        have ea := (Rp.step f2.toGSt _ _ r1).obj_inv
        by_cases c : (sh 8 (.lst ds) && sh 8 y) = true
        · unfold fIndex at q2
          simp only [if_pos c] at q2
          rw [Bool.and_eq_true] at c
          have c1 : (ds.all fun d => sh 7 d) = true := by simpa only [sh] using c.1
          cases e3 : placeOf ds y with
          | none => rw [e3] at q2; exact q2.elim
          | some j =>
            rw [e3] at q2
            obtain ⟨z, h1, h2, h3⟩ := placeOf_some e3
            rw [ea]
            have sh1 : SeqAt.shaped (.tuple (toPs ds)) = true := by
              show (PyData.canLay0 (.tuple (toPs ds)) && decide ((PyData.tuple (toPs ds)).depth ≤ 64)) = true
              have e1 : PyData.canLay0 (.tuple (toPs ds)) = true := by
                simp only [PyData.canLay0]
                exact lays_of 7 ds vs c1 k5
              rw [e1, Bool.true_and]
              refine decide_eq_true ?_
              have := depths_of 7 ds c1
              simp only [PyData.depth]
              omega
            refine ⟨_, w, toP y, toPs ds, j, toP z, rfl, rfl, .tup (.inl (.inr ⟨ob2, k4⟩)) (dps_of 7 ds vs c1 k5), dp_of 8 _ _ c.2 r2, sh1, shaped_of (by decide) c.2 r2, by rw [toPs_get, h1] <;> rfl, h2, fun m z' hm e4 => ?_, q2 g2 H2 _ Fr.refl O2 Rp.int⟩
            rw [toPs_get] at e4
            obtain ⟨z0, e5, rfl⟩ := Option.map_eq_some_iff.mp e4
            exact h3 m z0 hm e5
        · unfold fIndex at q2
          simp only [if_neg c] at q2
          exact q2.elim)
theorem pd_indexN (hu : X.A.units + 65 < cLine) (ha : PD X K E a ta da) (hb : PD X K E b tb db) (hbase : attributeBase a "index" X.env (eval a X.env) = eval a X.env := by rfl)
    (hfew : ((backTo pos (starEach [b] X.env)).all (fun x => !x.1) && (backToKw pos (keywordEach [] X.env)).all (fun x => x.1.isSome) && decide ([b].length + ([] : List Keyword).length + (if ([] : List Keyword).isEmpty then 0 else 1) < 30)) = true := by rfl)
    (hline : (apos.endLine == pos.line) = true := by rfl) (hs : starEach [b] X.env = (false, eval b X.env) :: starEach [] X.env := by rfl) (hplain : (backTo pos (starEach [] X.env)).any (·.1) = false := by rfl) :
    PD X K E (.Call (.Attribute a "index" apos) [b] [] pos) (tBMT (rTIndexD K) ta (tCons tb tNil)) (dIndexN da db) := by
  obtain ⟨k, pa, qa⟩ := ha
  subst k
  exact ⟨rfl, pe_bmT PySem.F.slot_tuple_index PySem.F.type_tuple_index (mt_tIndexD hu) pa (pa_cons hb.pe pa_nil hs) hbase hfew hline hs hplain, td_indexN qa hb.td⟩
/-! ### xs * n -/
def fRep : D → D → Option D
  | .lst ds, .int k => if 0 ≤ k ∧ k < 1000 ∧ ds.length * k.toNat ≤ lim then some (.lst (List.replicate k.toNat ds).flatten) else none
  | _, _ => none
theorem RpL.rep {g : G} {H : Hp} {ds : List D} {vs : List V} (r : RpL K g H ds vs) : ∀ n, RpL K g H (List.replicate n ds).flatten (List.replicate n vs).flatten
  | 0 => RpL.nil
  | n + 1 => by
    rw [List.replicate_succ, List.replicate_succ, List.flatten_cons, List.flatten_cons]
    exact r.append (RpL.rep r n)
theorem rd_rep : RD2 K rRep fRep := fun g H x y v w Q rx ry h => by
  cases x <;> cases y <;> try exact h.elim
  rename_i ds k
  obtain ⟨a, vs, rfl, q, r, z⟩ := rx.lst_inv
  rw [ry.int_inv]
  unfold fRep at h
  simp only at h
  by_cases c : 0 ≤ k ∧ k < 1000 ∧ ds.length * k.toNat ≤ lim
  · rw [if_pos c] at h
    refine ⟨a, k, vs, rfl, rfl, q.1, by omega, by omega, by rw [r.length]; exact Nat.le_trans c.2.2 lim_le, fun p hp => mkLst (r.rep _) ?_ h p hp⟩
    have len : ∀ n, (List.replicate n ds).flatten.length = ds.length * n := by
      intro n
      induction n with
      | zero => rfl
      | succ n ih => rw [List.replicate_succ, List.flatten_cons, List.length_append, ih, Nat.mul_succ, Nat.add_comm]
    rw [len]
    exact c.2.2
  · rw [if_neg c] at h
    exact h.elim
theorem pd_rep (ha : PD X K E a ta da) (hb : PD X K E b tb db) : PD X K E (.BinOp a .Mult b pos) (tOp rRep ta tb) (dOp fRep da db) := ⟨ha.k, pe_op op_rep ha.pe hb.pe, td_op rd_rep ha.td hb.td⟩
/-! ### x == [] as a test -/
theorem pdt_ownNil (i : Nat) {p1 p2 : Pos} (hu : X.A.units + 65 < cLine) (hk : X.K = K := by rfl) (hN : X.N[i]? = some x := by rfl) (hv : Vis X.env.scope x := by first | exact Or.inl rfl | exact Or.inr (Or.inl rfl) | exact Or.inr (Or.inr rfl)) (hd : (x == ("__debug__" : Str)) = false := by decide)
    (hcd : (x == ("__classdict__" : Str)) = false := by decide) (hm : behindInMarks .Eq (.List [] p2) = false := by first | exact nomark _ | rfl) :
    PDT X K E (.Compare (.Name x p1) [.Eq] [.List [] p2] pos) (tTest (tOp (rEqD K) (tVar i) (tLst tNil))) (dTest (dOwnNil (dOwn i))) := by
  subst hk
  exact ⟨rfl, pt_cmpR (op_eqD (by omega)) (pe_var hN hv hd hcd) (pe_lst pa_nil) hm, tdt_test td_ownNil⟩
theorem pdt_nilO {p2 : Pos} (hu : X.A.units + 65 < cLine) (ha : PD X K E a ta da) (hm : behindInMarks .Eq (.List [] p2) = false := by first | exact nomark _ | rfl) :
    PDT X K E (.Compare a [.Eq] [.List [] p2] pos) (tTest (tOp (rEqD K) ta (tLst tNil))) (dTest (dNilO da)) := by
  obtain ⟨k, pa, qa⟩ := ha
  subst k
  exact ⟨rfl, pt_cmpR (op_eqD (by omega)) pa (pe_lst pa_nil) hm, tdt_test (td_nilO qa)⟩
/-! ### x[::-1], x an own list -/
def dRevQ (dq : DI) : DE := fun ρ Ω => (dq ρ Ω).bind fun ds Ω1 => .ok (.lst ds.reverse) Ω1
theorem pd_ownRev (i : Nat) {k : Nat} {p1 p2 p3 p4 : Pos} (hk : X.K = K := by rfl) (hN : X.N[i]? = some x := by rfl) (hv : Vis X.env.scope x := by first | exact Or.inl rfl | exact Or.inr (Or.inl rfl) | exact Or.inr (Or.inr rfl)) (hd : (x == ("__debug__" : Str)) = false := by decide)
    (hcd : (x == ("__classdict__" : Str)) = false := by decide) :
    PD X K E (.Subscript (.Name x p4) (.Slice none none (some (.UnaryOp .USub (.Constant (.int 1) k p1) p2)) p3) pos) (tRevA K (tVar i)) (dRevQ (dOwn i)) := by
  subst hk
  refine ⟨rfl, pe_revA (pe_var hN hv hd hcd), fun g H Ω ρ σ Q S O h => tdq_own (K := X.K) (E := E) i g H Ω ρ σ _ S O (Pst.bind h fun ds Ω1 g1 H1 v f1 O1 r1 q => ?_)⟩
  obtain ⟨a, vs, rfl, q1, rl, z⟩ := r1
  exact ⟨a, vs, rfl, .inl ⟨SqL.of q1.1, fun p hp => mkLst rl.reverse (by rw [List.length_reverse]; exact z) (fun g' H' b e r => q g' H' b e.fr (O1.ext e) r) p hp⟩⟩
end
end Fm
/-! Fm, part 24: facts of exception classes for the head. -/
namespace Fm
open PySem PySem.Spec L2
open PyProof.Rows hiding St
def excB (K : PySem.W.Frag) (n : Str) : Bool :=
  He.eqO (PySem.W.findIn K (.ref (He.ga K n)) "__getattribute__") (some (some (.builtin "BaseException.__getattribute__"))) && (He.eqO (PySem.W.findIn K (.ref (He.ga K n)) "__getattr__") (some none) &&
  (decide (PySem.W.subIn K (.ref (He.ga K n)) (.type "BaseException") = some true) && (PySem.W.hasDictIn K (He.ga K n) && (He.eqO (PySem.W.findIn K (.ref (He.ga K n)) "__class__") (some (some (.builtin "object.__class__"))) &&
  (He.eqO (PySem.W.specialIn K (.builtin "object.__class__") "__get__") (some (some (.builtin "getset_descriptor.__get__"))) && (decide (PySem.W.takesIn K (.builtin "object.__class__") = some true) && decide (PySem.W.mroIn K (He.ga K n) (.type "object") = some true)))))))
theorem excB_ok {K : PySem.W.Frag} {n : Str} (h : excB K n = true) : L2.ExcC K (He.ga K n) := by
  obtain ⟨h1, h⟩ := He.ba h
  obtain ⟨h2, h⟩ := He.ba h
  obtain ⟨h3, h⟩ := He.ba h
  obtain ⟨h4, h⟩ := He.ba h
  obtain ⟨h5, h⟩ := He.ba h
  obtain ⟨h6, h⟩ := He.ba h
  obtain ⟨h7, h8⟩ := He.ba h
  exact ⟨He.eqO_ok h1, He.eqO_ok h2, of_decide_eq_true h3, h4, He.eqO_ok h5, He.eqO_ok h6, of_decide_eq_true h7, of_decide_eq_true h8⟩
def kitB (K : PySem.W.Frag) (n : Str) (v : Value) (b : Bool) : Bool := decide (PySem.W.kitOne K (.ref (He.ga K n)) v = some b)
theorem kitB_ok {K : PySem.W.Frag} {n : Str} {v : Value} {b : Bool} (h : kitB K n v b = true) : PySem.W.kitOne K (.ref (He.ga K n)) v = some b := of_decide_eq_true h
end Fm
/-! Fm: a comprehension over a list of the store, tuple() of one. -/
namespace Fm
open PySem PySem.Spec L2
open PyProof.Rows hiding St

/-! ### a list of the store is walked while other objects change -/
def lcNO (i n : Nat) (dg : DG) (dt : DT) (de : DE) (ρ : Env1) : Nat → List D → Om → Res (List D)
  | 0, acc, Ω => match Ω[i]? with
    | some (.ls ds) => if ds.length = n then .ok acc Ω else .bad
    | _ => .bad
  | m + 1, acc, Ω => match Ω[i]? with
    | some (.ls ds) => if ds.length = n then (match ds[n - (m + 1)]? with
      | some x => match dg x ρ with
        | some ρ1 => (dt ρ1 Ω).bind fun b Ω1 => if b = true then (de ρ1 Ω1).bind fun y Ω2 => lcNO i n dg dt de ρ m (acc ++ [y]) Ω2 else lcNO i n dg dt de ρ m acc Ω1
        | none => .bad
      | none => .bad) else .bad
    | _ => .bad
def dLcO (da : DE) (dg : DG) (dt : DT) (de : DE) (vs : List Nat) : DE := fun ρ Ω => (da ρ Ω).bind fun x Ω1 => match lsAt Ω1 x with
  | some (i, ds) => (lcNO i ds.length dg dt de (wipeD ρ vs) ds.length [] Ω1).bind fun ys Ω2 => .ok (.lst ys) Ω2
  | none => .bad
def dTupO (da : DE) : DE := fun ρ Ω => (da ρ Ω).bind fun x Ω1 => match lsAt Ω1 x with
  | some (_, ds) => .ok (.tup ds) Ω1
  | none => .bad
theorem walk_live {K : PySem.W.Frag} {a : Addr} {n : Nat} : Walk (Itl K a) n (fun H => ∃ vs : List V, vs.length = n ∧ H a = some (.lst vs)) (fun i H x H' => H' = H ∧ ∃ vs : List V, H a = some (.lst vs) ∧ vs[i]? = some x) where
  goes := fun i H hi ⟨vs, hl, hs⟩ => (walk_list (K := K) (a := a) (xs := vs)).goes i H (by omega) (SqL.of hs)
  stops := fun H ⟨vs, hl, hs⟩ => by
    have := (walk_list (K := K) (a := a) (xs := vs)).stops H (SqL.of hs)
    rw [hl] at this
    exact this
  yields := fun i H x H' hi ⟨vs, hl, hs⟩ y => by
    obtain ⟨e1, e2⟩ := (walk_list (K := K) (a := a) (xs := vs)).yields i H x H' (by omega) (SqL.of hs) y
    exact ⟨e1, vs, hs, e2⟩
section
variable {X : Cx} {K : PySem.W.Frag} {E : XK} {tg : TG} {dg : DG} {tt : TT} {dt : DT} {ta te : TE} {da de : DE} {vs : List Nat}
/-- what is not bad finds the list as long as it was -/
theorem lcNO_at {g1 : G} {H1 : Hp} {Q : V → Hp → Prop} {i n : Nat} {ρ : Env1} : ∀ {m : Nat} {acc : List D} {Ω : Om}, Pst K E g1 H1 (Rp K) Q ((lcNO i n dg dt de ρ m acc Ω).bind fun ys Ω2 => .ok (.lst ys) Ω2) → ∃ ds, Ω[i]? = some (.ls ds) ∧ ds.length = n := by
  intro m acc Ω h
  cases m with
  | zero =>
    unfold lcNO at h
    cases e : Ω[i]? with
    | none => rw [e] at h; exact h.elim
    | some o =>
      rw [e] at h
      cases o with
      | ls ds =>
        by_cases c : ds.length = n
        · exact ⟨ds, rfl, c⟩
        · have h : Pst K E g1 H1 (Rp K) Q ((if ds.length = n then Res.ok acc Ω else .bad).bind fun ys Ω2 => .ok (.lst ys) Ω2) := h
          rw [if_neg c] at h
          exact h.elim
      | _ => exact h.elim
  | succ m =>
    unfold lcNO at h
    cases e : Ω[i]? with
    | none => rw [e] at h; exact h.elim
    | some o =>
      rw [e] at h
      cases o with
      | ls ds =>
        by_cases c : ds.length = n
        · exact ⟨ds, rfl, c⟩
        · have h : Pst K E g1 H1 (Rp K) Q ((if ds.length = n then _ else Res.bad).bind fun ys Ω2 => .ok (.lst ys) Ω2) := h
          rw [if_neg c] at h
          exact h.elim
      | _ => exact h.elim
theorem td_lcO (ha : TD K E ta da) (hg : TDG K tg dg) (hw : TGok tg vs) (ht : TDT K E tt dt) (he : TD K E te de) : TD K E (tLc (iList K ta) tg tt te vs) (dLcO da dg dt de vs) := fun g H Ω ρ σ Q S O h =>
  ha g H Ω ρ σ _ S O (Pst.bind h fun x Ω1 g1 H1 v f1 o1 r1 h1 => by
    cases e : lsAt Ω1 x with
    | none => rw [e] at h1; exact h1.elim
    | some t =>
    obtain ⟨k, ds0⟩ := t
    rw [e] at h1
    obtain ⟨rfl, eo⟩ := lsAt_some e
    obtain ⟨hown, vs0, k1, k2, k3⟩ := o1.at_ k _ eo
    have ev := r1.obj_inv
    subst ev
    have h1 : Pst K E g1 H1 (Rp K) Q ((lcNO k ds0.length dg dt de (wipeD ρ vs) ds0.length [] Ω1).bind fun ys Ω2 => .ok (.lst ys) Ω2) := h1
    refine ⟨g1.adr (.obj k), rfl, ⟨vs0, SqL.of k1⟩, ?_⟩
    intro A hA
    have S1 : Sl K g1 H1 (wipeD ρ vs) (L2.wipe σ vs) := (S.fr f1).wipe vs
    have live : ∀ {g' : G} {H' : Hp} {Ω' : Om} {m : Nat} {acc : List D}, Fr g1 H1 g' H' → Ob K g' H' Ω' → Pst K E g1 H1 (Rp K) Q ((lcNO k ds0.length dg dt de (wipeD ρ vs) m acc Ω').bind fun ys Ω2 => .ok (.lst ys) Ω2) → ∃ ds vs1, Ω'[k]? = some (.ls ds) ∧ ds.length = ds0.length ∧ H' (g1.adr (.obj k)) = some (.lst vs1) ∧ RpL K g' H' ds vs1 := by
      intro g' H' Ω' m acc f' o' h'
      obtain ⟨ds, e1, e2⟩ := lcNO_at h'
      obtain ⟨_, vs1, q1, q2, _⟩ := o'.at_ k _ e1
      rw [f'.adr k hown (ne_some k1)] at q1
      exact ⟨ds, vs1, e1, e2, q1, q2⟩
    refine lc_it (walk_live (K := K) (a := g1.adr (.obj k)) (n := ds0.length)) (fun i H' => ∃ g' Ω' acc av, Fr g1 H1 g' H' ∧ Ob K g' H' Ω' ∧ H' A = some (.lst av) ∧ g'.own A = some .tmp ∧ RpL K g' H' acc av ∧ acc.length ≤ i ∧
        Pst K E g1 H1 (Rp K) Q ((lcNO k ds0.length dg dt de (wipeD ρ vs) (ds0.length - i) acc Ω').bind fun ys Ω2 => .ok (.lst ys) Ω2))
      ⟨g1.put A .tmp, Ω1, [], [], (Ext.newL .tmp hA).fr, o1.ext (Ext.newL .tmp hA), upd_same, G.put_same, RpL.nil, Nat.le_refl 0, h1⟩ (fun i H' _ ⟨g', Ω', acc, _, f', o', _, _, _, _, h'⟩ => ?_) ?_ ?_
    · obtain ⟨ds, vs1, e1, e2, q1, q2⟩ := live f' o' h'
      exact ⟨vs1, by rw [q2.length]; exact e2, q1⟩
    · rintro i x H2 H3 hi2 ⟨g2, Ω2, acc, av, f2, o2, hD, wD, ra, za, h2⟩ ⟨rfl, vs2, y1, y2⟩
      obtain ⟨ds, vs1, e1, e2, q1, q2⟩ := live f2 o2 h2
      have ev : vs1 = vs2 := by
        rw [q1] at y1
        injection y1 with y1
        injection y1
      subst ev
      have hd : ds[i]? = some (ds[i]'(by omega)) := List.getElem?_eq_getElem (by omega)
      obtain ⟨w, u1, rx⟩ := q2.get hd
      rw [y2] at u1
      cases u1
      rw [show ds0.length - i = (ds0.length - (i + 1)) + 1 by omega] at h2
      unfold lcNO at h2
      rw [e1] at h2
      have h2 : Pst K E g1 H1 (Rp K) Q ((if ds.length = ds0.length then (match ds[ds0.length - (ds0.length - (i + 1) + 1)]? with
        | some x => match dg x (wipeD ρ vs) with
          | some ρ1 => (dt ρ1 Ω2).bind fun b Ω1 => if b = true then (de ρ1 Ω1).bind fun y Ω2 => lcNO k ds0.length dg dt de (wipeD ρ vs) (ds0.length - (i + 1)) (acc ++ [y]) Ω2 else lcNO k ds0.length dg dt de (wipeD ρ vs) (ds0.length - (i + 1)) acc Ω1
          | none => .bad
        | none => .bad) else .bad).bind fun ys Ω2 => .ok (.lst ys) Ω2) := h2
      rw [if_pos e2, show ds0.length - (ds0.length - (i + 1) + 1) = i by omega, hd] at h2
      have h2' : Pst K E g1 H1 (Rp K) Q ((match dg (ds[i]'(by omega)) (wipeD ρ vs) with
          | some ρ1 => (dt ρ1 Ω2).bind fun b Ω1 => if b = true then (de ρ1 Ω1).bind fun y Ω2 => lcNO k ds0.length dg dt de (wipeD ρ vs) (ds0.length - (i + 1)) (acc ++ [y]) Ω2 else lcNO k ds0.length dg dt de (wipeD ρ vs) (ds0.length - (i + 1)) acc Ω1
          | none => .bad).bind fun ys Ω2 => .ok (.lst ys) Ω2) := h2
      cases e : dg (ds[i]'(by omega)) (wipeD ρ vs) with
      | none => rw [e] at h2'; exact h2'.elim
      | some ρ3 =>
        rw [e] at h2'
        refine hw.mono _ _ _ _ _ (hw.wg _ _ _ _ (hg.run g2 H3 (wipeD ρ vs) ρ3 (L2.wipe σ vs) _ x (fun σ2 H4 => Sl K g2 H3 ρ3 σ2 ∧ H4 = H3) (S1.fr f2) rx e fun σ' S' => ⟨S', rfl⟩)) ?_
        rintro σ2 H4 ⟨ew, S4, rfl⟩
        refine ⟨by rw [ew, wipe_wipe], ?_⟩
        have h3 : Pst K E g1 H1 (Rp K) Q (((dt ρ3 Ω2).bind fun b Ω1 => if b = true then (de ρ3 Ω1).bind fun y Ω2 => lcNO k ds0.length dg dt de (wipeD ρ vs) (ds0.length - (i + 1)) (acc ++ [y]) Ω2 else lcNO k ds0.length dg dt de (wipeD ρ vs) (ds0.length - (i + 1)) acc Ω1).bind fun ys Ω2 => .ok (.lst ys) Ω2) := h2'
        have h3' : Pst K E g1 H1 (Rp K) Q ((dt ρ3 Ω2).bind fun b Ω1 => (if b = true then (de ρ3 Ω1).bind fun y Ω2 => lcNO k ds0.length dg dt de (wipeD ρ vs) (ds0.length - (i + 1)) (acc ++ [y]) Ω2 else lcNO k ds0.length dg dt de (wipeD ρ vs) (ds0.length - (i + 1)) acc Ω1).bind fun ys Ω2 => .ok (.lst ys) Ω2) := by
          cases q : dt ρ3 Ω2 with
          | ok b Ωx => rw [q] at h3; exact h3
          | exc n Ωx => rw [q] at h3; exact h3
          | bad => rw [q] at h3; exact h3
        refine ht g2 H4 Ω2 ρ3 σ2 _ S4 o2 (Pst.bind' f2 h3' fun b Ω3 g4 H5 b' f4 o4 eb h4 => ?_)
        subst eb
        have same4 : ∀ {g4 : G} {H5 : Hp}, Fr g2 H4 g4 H5 → H5 A = some (.lst av) ∧ g4.own A = some .tmp := fun {g4 H5} f4 =>
          ⟨f4.same A _ hD (by rw [wD]; exact fun _ z => by cases z) (by rw [wD]; exact fun _ _ z => by cases z), by rw [f4.own A (ne_some hD)]; exact wD⟩
        cases b' with
        | false =>
          obtain ⟨d1, d2⟩ := same4 f4
          exact ⟨g4, Ω3, acc, av, f2.trans f4, o4, d1, d2, RpL.step f4.toGSt _ _ ra, by omega, h4⟩
        | true =>
          have h5 : Pst K E g1 H1 (Rp K) Q (((de ρ3 Ω3).bind fun y Ω2 => lcNO k ds0.length dg dt de (wipeD ρ vs) (ds0.length - (i + 1)) (acc ++ [y]) Ω2).bind fun ys Ω2 => .ok (.lst ys) Ω2) := h4
          have h5' : Pst K E g1 H1 (Rp K) Q ((de ρ3 Ω3).bind fun y Ω2 => (lcNO k ds0.length dg dt de (wipeD ρ vs) (ds0.length - (i + 1)) (acc ++ [y]) Ω2).bind fun ys Ω2 => .ok (.lst ys) Ω2) := by
            cases q : de ρ3 Ω3 with
            | ok b Ωx => rw [q] at h5; exact h5
            | exc n Ωx => rw [q] at h5; exact h5
            | bad => rw [q] at h5; exact h5
          refine he g4 H5 Ω3 ρ3 σ2 _ (S4.fr f4) o4 (Pst.bind' (f2.trans f4) h5' fun yd Ω4 g5 H6 yv f5 o5 ry h6 => ?_)
          have f45 := f4.trans f5
          obtain ⟨d1, d2⟩ := same4 f45
          have hu : GSt g5 H6 g5 (L2.upd H6 A (.lst (av ++ [yv]))) := GSt.upd d1 ⟨(fun _ z => by cases z), (fun _ _ z => by cases z)⟩ d2 fun z => nomatch z
          have ra5 : RpL K g5 H6 acc av := RpL.step f45.toGSt _ _ ra
          have hl := ra5.length
          refine ⟨av, d1, by rw [hl]; exact Nat.lt_of_le_of_lt za (Nat.lt_of_lt_of_le (Nat.lt_of_lt_of_le hi2 k3) lim_le), ?_⟩
          refine ⟨g5, Ω4, acc ++ [yd], av ++ [yv], (f2.trans f45).mutNew hA, o5.upd hu d2 trivial, upd_same, d2, RpL.step hu _ _ (ra5.append (RpL.cons ry RpL.nil)), by rw [List.length_append, List.length_singleton]; omega, h6⟩
    · rintro H2 ⟨g2, Ω2, acc, av, f2, o2, hD, wD, ra, za, h2⟩
      obtain ⟨ds, vs1, e1, e2, q1, q2⟩ := live f2 o2 h2
      rw [Nat.sub_self] at h2
      unfold lcNO at h2
      rw [e1] at h2
      have h2 : Pst K E g1 H1 (Rp K) Q ((if ds.length = ds0.length then Res.ok acc Ω2 else .bad).bind fun ys Ω2 => .ok (.lst ys) Ω2) := h2
      rw [if_pos e2] at h2
      have k := Gh.lock wD
      have h3 : ∀ g' H' b, Fr g1 H1 g' H' → Ob K g' H' Ω2 → Rp K g' H' (.lst acc) b → Q b H' := h2
      refine h3 (g2.put A .lock) H2 (.ref A) (f2.markNew hA .lock) (o2.gh k) ?_
      simp only [Rp]
      exact ⟨A, av, rfl, ⟨hD, G.put_same⟩, RpL.gh k _ _ ra, Nat.le_trans za k3⟩)
theorem td_tupO (ha : TD K E ta da) : TD K E (tCB (rTupU K) (tCons ta tNil)) (dTupO da) := fun g H Ω ρ σ Q S O h =>
  ha g H Ω ρ σ _ S O (Pst.bind h fun x Ω1 g1 H1 v f1 o1 r1 q => by
    cases e : lsAt Ω1 x with
    | none => rw [e] at q; exact q.elim
    | some t =>
      obtain ⟨k, ds⟩ := t
      rw [e] at q
      obtain ⟨rfl, eo⟩ := lsAt_some e
      obtain ⟨hown, vs, k1, k2, k3⟩ := o1.at_ k _ eo
      have ev := r1.obj_inv
      subst ev
      have q : ∀ g' H' b, Fr g1 H1 g' H' → Ob K g' H' Ω1 → Rp K g' H' (.tup ds) b → Q b H' := q
      exact ⟨_, vs, rfl, .inl ⟨SqL.of k1, fun p hp => mkTup k2 k3 (fun g' H' b e r => q g' H' b e.fr (o1.ext e) r) p hp⟩⟩)
theorem pd_tupO {y : Str} {e : Expr} (ha : PD X K E e ta da) (hg : Gl X y) (hm : X.mg y = none) (hy : y = "tuple" := by rfl) (hs : starEach [e] X.env = (false, eval e X.env) :: starEach [] X.env := by rfl) : PD X K E (.Call (.Name y p) [e] [] pos) (tCB (rTupU K) (tCons ta tNil)) (dTupO da) := by
  obtain ⟨k, pa, qa⟩ := ha
  subst k hy
  exact ⟨rfl, pe_callTy call_tuple_of hg hm (by decide +kernel) (pa_cons pa pa_nil hs) (by decide) (by decide) hs, td_tupO qa⟩
theorem pd_lcO {a : Expr} {elt tg : Expr} {ifs : List Expr} {scope : Scope} {own : List (Str × Nat)} {t : TG} {d : DG} (hc : X.calm = true) (hN : X.N.Nodup) (hi : PD X K E a ta da) (ok : BlkOk X.N X.env.scope scope own)
    (hg : ∀ (s : Shared) (H : Hp) (C : Addr) (cl : List (Str × Addr)) (fp : List Addr), PDG (X.blk s H scope (compEnvC scope cl C X.env) fp) K tg t d)
    (ht : ∀ (s : Shared) (H : Hp) (C : Addr) (cl : List (Str × Addr)) (fp : List Addr), PDTs (X.blk s H scope (compEnvC scope cl C X.env) fp) K NoE ifs tt dt)
    (he : ∀ (s : Shared) (H : Hp) (C : Addr) (cl : List (Str × Addr)) (fp : List Addr), PD (X.blk s H scope (compEnvC scope cl C X.env) fp) K NoE elt te de)
    (hw : TGok t (own.map (·.2))) (hs : ∀ x, foldedSetIterable a X.env x = pure x := by intro _; rfl) :
    PD X K E (.ListComp elt [⟨tg, a, ifs, 0⟩] scope pos) (tLc (iList K ta) t tt te (own.map (·.2))) (dLcO da d (nxT dt) (nxE de) (own.map (·.2))) := by
  obtain ⟨k, pa, qa⟩ := hi
  subst k
  exact ⟨rfl, pe_lc hc hN (pi_list pa) ok (fun s H C cl fp => (hg s H C cl fp).pg) (fun s H C cl fp => (ht s H C cl fp).pt) (fun s H C cl fp => (he s H C cl fp).pe) hs,
    td_lcO qa (hg X.s_0 X.H_0 0 [] []).td hw (TDT.noE (ht X.s_0 X.H_0 0 [] []).td) (TD.noE (he X.s_0 X.H_0 0 [] []).td)⟩
end
end Fm
/-! Fm: str(x) of a whole number or a text, int(text), text.index(text, start). -/
namespace Fm
open PySem PySem.Spec L2
open PyProof.Rows hiding St

def decS (i : Int) : Str := Str.ofString (toString i)
def decL (i : Int) : List Nat := (decS i).cps.toList
def fStrU : List D → Option D
  | [.int i] => if (decide (i.natAbs < 2 ^ 62) && (decide ((decL i).length ≤ lim) && asc (decL i))) = true then some (.str (decL i)) else none
  | [.str l] => some (.str l)
  | _ => none
def rStrU : List V → Hp → VK → Prop := fun xs H Q => (∃ i, xs = [.int i] ∧ i.natAbs.log2 < 1920 ∧ Q (.str (Str.ofString (toString i))) H) ∨ ∃ a, xs = [.str a] ∧ Q (.str a) H
def fIntS : List D → Option D
  | [.str l] => if l.length ≤ 640 then (intText? ⟨l.toArray⟩).map D.int else none
  | _ => none
def rIntS : List V → Hp → VK → Prop := fun xs H Q => ∃ a n, xs = [.str a] ∧ intText? a = some n ∧ a.length ≤ 640 ∧ Q (.int n) H
def dIdxX (da : DE) (das : DA) : DE := fun ρ Ω => (da ρ Ω).bind fun x Ω1 => match x with
  | .str l => (das ρ Ω1).bind fun ys Ω2 => match ys with
    | [.str m, .int i] => lift ((Txt.indexFrom ⟨l.toArray⟩ ⟨m.toArray⟩ i).map fun k => D.int (k : Nat)) Ω2
    | _ => .bad
  | _ => .bad
section
variable {X : Cx} {K : PySem.W.Frag} {E : XK} {ta : TE} {da : DE} {tas : TA} {das : DA}
theorem decS_eq (i : Int) : (⟨(decL i).toArray⟩ : Str) = Str.ofString (toString i) := by
  show (⟨(decS i).cps.toList.toArray⟩ : Str) = decS i
  rw [Array.toArray_toList]
theorem log_of {n : Nat} (h : n < 2 ^ 62) : n.log2 < 1920 := by
  by_cases h0 : n = 0
  · subst h0
    decide
  · exact Nat.lt_trans ((Nat.log2_lt h0).mpr h) (by decide)
theorem call_strU : CallR X (.type "str") rStrU := fun pins s σ H xs us Q I r h => h.elim (fun h => call_str_int pins s σ H xs us Q I r h) (fun h => SkE.call_str_str pins s σ H xs us Q I r h)
theorem rd_strU : RDC K rStrU fStrU := fun g H xs vs Q r h => by
  match xs, r, h with
  | [d], r, h =>
    obtain ⟨v, rfl, rv⟩ := r.one
    cases d with
    | int i =>
      rw [rv.int_inv]
      have h : PstX K g H (Rp K) Q (if (decide (i.natAbs < 2 ^ 62) && (decide ((decL i).length ≤ lim) && asc (decL i))) = true then some (.str (decL i)) else none) := h
      by_cases c : (decide (i.natAbs < 2 ^ 62) && (decide ((decL i).length ≤ lim) && asc (decL i))) = true
      · rw [if_pos c] at h
        simp only [Bool.and_eq_true, decide_eq_true_eq] at c
        refine .inl ⟨i, rfl, log_of c.1, ?_⟩
        rw [← decS_eq]
        exact h g H _ Ext.refl (Rp.str c.2.1 c.2.2)
      · rw [if_neg c] at h
        exact h.elim
    | str l =>
      obtain ⟨e, z, a⟩ := rv.str_inv
      exact .inr ⟨_, by rw [e], h g H _ Ext.refl (Rp.str z a)⟩
    | _ => exact h.elim
  | [], _, h => exact h.elim
  | a :: b :: c, _, h => cases a <;> exact h.elim
theorem b_strU (hk : X.K = K := by rfl) : BltD X K (.type "str") rStrU fStrU := ⟨hk, call_strU, rd_strU⟩
theorem rd_intS : RDC K rIntS fIntS := fun g H xs vs Q r h => by
  match xs, r, h with
  | [d], r, h =>
    obtain ⟨v, rfl, rv⟩ := r.one
    cases d with
    | str l =>
      obtain ⟨e, z, a⟩ := rv.str_inv
      have h : PstX K g H (Rp K) Q (if l.length ≤ 640 then (intText? ⟨l.toArray⟩).map D.int else none) := h
      by_cases c : l.length ≤ 640
      · rw [if_pos c] at h
        cases e2 : intText? ⟨l.toArray⟩ with
        | none => rw [e2] at h; exact h.elim
        | some n =>
          rw [e2] at h
          exact ⟨_, n, by rw [e], e2, by rw [S_len]; exact c, h g H _ Ext.refl Rp.int⟩
      · rw [if_neg c] at h
        exact h.elim
    | _ => exact h.elim
  | [], _, h => exact h.elim
  | a :: b :: c, _, h => cases a <;> exact h.elim
theorem b_intS (hk : X.K = K := by rfl) : BltD X K (.type "int") rIntS fIntS := ⟨hk, call_int_str, rd_intS⟩
theorem td_idxX {W : WX} (ha : TD K E ta da) (hs : TDA K E tas das) : TD K E (tBMS K "str" (rIndexFromX W) ta tas) (dIdxX da das) := fun g H Ω ρ σ Q S O h =>
  ha g H Ω ρ σ _ S O (Pst.bind h fun x Ω1 g1 H1 v f1 O1 r1 q => by
    cases x with
    | str l =>
      obtain ⟨e1, z1, a1⟩ := r1.str_inv
      subst e1
      refine ⟨rfl, hs g1 H1 Ω1 ρ σ _ (S.fr f1) O1 (Pst.bind q fun ys Ω2 g2 H2 ws f2 O2 r2 q2 => ?_)⟩
      match ys, r2, q2 with
      | [], _, q2 => exact q2.elim
      | [a], _, q2 => cases a <;> exact q2.elim
      | a :: b :: c :: r, _, q2 =>
        cases a <;> first | exact q2.elim | (cases b <;> exact q2.elim)
      | [a, b], r2, q2 =>
        cases a with
        | str m =>
          cases b with
          | int i =>
            obtain ⟨w1, wr, rfl, s1, s2⟩ := r2
            obtain ⟨w2, rfl, s3⟩ := RpL.one s2
            obtain ⟨e2, _, _⟩ := s1.str_inv
            have e3 := s3.int_inv
            subst e2 e3
            have q2 : Pst K E g2 H2 (Rp K) Q (lift ((Txt.indexFrom ⟨l.toArray⟩ ⟨m.toArray⟩ i).map fun k => D.int (k : Nat)) Ω2) := q2
            refine ⟨_, _, i, rfl, rfl, fun k e => ?_, fun e => ?_⟩
            · rw [e] at q2
              exact q2 g2 H2 _ Fr.refl O2 Rp.int
            · rw [e] at q2
              exact q2.elim
          | _ => exact q2.elim
        | _ => exact q2.elim
    | _ => exact q.elim)
theorem takes_no : L2.Takes X (fun _ _ _ _ => False) := fun u s' h => by
  unfold L2.XE at h
  obtain ⟨_, h⟩ := h
  exact absurd h (by grind)
theorem pd_idxX {a e : Expr} {es : List Expr} {apos cpos : Pos} (ha : PD X K E a ta da) (hp : PDA X K E (e :: es) tas das) (hc : X.calm = true := by rfl) (hbase : attributeBase a "index" X.env (eval a X.env) = eval a X.env := by rfl)
    (hfew : ((backTo cpos (starEach (e :: es) X.env)).all (fun x => !x.1) && (backToKw cpos (keywordEach [] X.env)).all (fun x => x.1.isSome) && decide ((e :: es).length + ([] : List Keyword).length + (if ([] : List Keyword).isEmpty then 0 else 1) < 30)) = true := by rfl)
    (hline : (apos.endLine == cpos.line) = true := by rfl) (hs : starEach (e :: es) X.env = (false, eval e X.env) :: starEach es X.env := by rfl) (hplain : (backTo cpos (starEach es X.env)).any (·.1) = false := by rfl) :
    PD X K E (.Call (.Attribute a "index" apos) (e :: es) [] cpos) (tBMS K "str" (rIndexFromX (fun _ _ _ _ => False)) ta tas) (dIdxX da das) := by
  obtain ⟨k, pa, qa⟩ := ha
  subst k
  exact ⟨rfl, pe_bmS PySem.F.plainAttrs_str PySem.F.slot_str_index PySem.F.type_str_index (mt_indexFromX hc takes_no) pa hp.pa hbase hfew hline hs hplain, td_idxX qa hp.td⟩
end
end Fm
/-! Fm: how many unlike whole numbers there are; a rising list of triples, made a set and sorted anew. -/
namespace Fm
open PySem PySem.Spec L2
open PyProof.Rows hiding St

def intsD : List D → Option (List Int)
  | [] => some []
  | .int i :: ds => (intsD ds).map fun r => i :: r
  | _ :: _ => none
def fLenSet : D → Option D
  | .lst ds => match intsD ds with
    | some ns => if (decide (ns.length < 64) && decide ns.Nodup) = true then some (.int (ns.length : Nat)) else none
    | none => none
  | _ => none
def triD : D → Option (List Int)
  | .tup ds => intsD ds
  | _ => none
def trisD : List D → Option (List (List Int))
  | [] => some []
  | d :: ds => match triD d, trisD ds with
    | some n, some r => some (n :: r)
    | _, _ => none
def okSet (L : List (List Int)) : Bool := decide (L.length < 64) && ((L.all fun p => decide (p.length = 3) && p.all fun x => decide (0 ≤ x) && decide (x < 4096)) && decide (L.Pairwise fun a b => TS.code 4096 a < TS.code 4096 b))
def fSortSet : D → Option D
  | .lst ds => match trisD ds with
    | some L => if okSet L = true then some (.lst ds) else none
    | none => none
  | _ => none
section
variable {X : Cx} {K : PySem.W.Frag} {E : XK} {ta : TE} {da : DE} {g : G} {H : Hp}
theorem intsD_rp : ∀ {ds : List D} {ns : List Int} {ws : List V}, intsD ds = some ns → RpL K g H ds ws → ws = ns.map V.int
  | [], ns, ws, h, r => by
    cases h
    exact r
  | d :: ds, ns, ws, h, r => by
    obtain ⟨v, vs, rfl, h1, h2⟩ := r
    cases d with
    | int i =>
      have h : (intsD ds).map (fun r => i :: r) = some ns := h
      cases e : intsD ds with
      | none => rw [e] at h; cases h
      | some ms =>
        rw [e] at h
        cases h
        rw [h1.int_inv, intsD_rp e h2] <;> rfl
    | _ => cases h
theorem td_lenSet (ha : TD K E ta da) : TD K E (tLenSetI K ta) (dUn fLenSet da) := fun g H Ω ρ σ Q S O h =>
  ha g H Ω ρ σ _ S O (Pst.bind h fun x Ω1 g1 H1 v f1 O1 r1 h1 => by
    have h2 := Pst.pure O1 h1
    cases x with
    | lst ds =>
      obtain ⟨a, vs, rfl, q, rl, z⟩ := r1.lst_inv
      have h2 : PstX K g1 H1 (Rp K) Q (match intsD ds with | some ns => if (decide (ns.length < 64) && decide ns.Nodup) = true then some (.int (ns.length : Nat)) else none | none => none) := h2
      cases e : intsD ds with
      | none => rw [e] at h2; exact h2.elim
      | some ns =>
        rw [e] at h2
        have h2 : PstX K g1 H1 (Rp K) Q (if (decide (ns.length < 64) && decide ns.Nodup) = true then some (.int (ns.length : Nat)) else none) := h2
        by_cases c : (decide (ns.length < 64) && decide ns.Nodup) = true
        · rw [if_pos c] at h2
          simp only [Bool.and_eq_true, decide_eq_true_eq] at c
          have e2 := intsD_rp e rl
          subst e2
          exact ⟨a, ns, rfl, q.seq, c.1, c.2, h2 g1 H1 _ Ext.refl Rp.int⟩
        · rw [if_neg c] at h2
          exact h2.elim
    | _ => exact h2.elim)
theorem pd_lenSet {a : Expr} {p p2 q pos : Pos} (hc : X.calm = true) (hg : Gl X "len") (hm : X.mg "len" = none) (hg2 : Gl X "set") (hm2 : X.mg "set" = none) (ha : PD X K E a ta da)
    (na : starEach [a] X.env = (false, eval a X.env) :: starEach [] X.env := by rfl) : PD X K E (.Call (.Name "len" p) [.Call (.Name "set" p2) [a] [] q] [] pos) (tLenSetI X.K ta) (dUn fLenSet da) := by
  obtain ⟨k, pa, qa⟩ := ha
  subst k
  exact ⟨rfl, pe_lenSetI hc hg hm hg2 hm2 pa na, td_lenSet qa⟩
theorem SqT.ext {g g' : G} {H H' : Hp} {a : Addr} {xs : List V} (h : H a = some (.tup xs)) (e : Ext g H g' H') : SqT K H' a xs := SqT.of (e.same a _ h)
theorem trisD_rp : ∀ {ds : List D} {L : List (List Int)} {ws : List V}, trisD ds = some L → RpL K g H ds ws → ∃ ks : List (Addr × List Int), ws = ks.map (fun p => V.ref p.1) ∧ ks.map (·.2) = L ∧ ∀ p ∈ ks, H p.1 = some (.tup (p.2.map V.int))
  | [], L, ws, h, r => by
    cases h
    exact ⟨[], r, rfl, fun _ h => absurd h (by simp)⟩
  | d :: ds, L, ws, h, r => by
    obtain ⟨v, vs, rfl, h1, h2⟩ := r
    have h : (match triD d, trisD ds with | some n, some r => some (n :: r) | _, _ => none) = some L := h
    cases e1 : triD d with
    | none => rw [e1] at h; cases h
    | some n =>
      cases e2 : trisD ds with
      | none => rw [e1, e2] at h; cases h
      | some M =>
        rw [e1, e2] at h
        cases h
        obtain ⟨ks, e3, e4, e5⟩ := trisD_rp e2 h2
        cases d with
        | tup es =>
          have e1 : intsD es = some n := e1
          simp only [Rp] at h1
          obtain ⟨a, us, rfl, q, rl, z⟩ := h1
          have e6 := intsD_rp e1 rl
          subst e6
          refine ⟨(a, n) :: ks, by rw [e3] <;> rfl, by rw [← e4] <;> rfl, fun p hp => ?_⟩
          rcases List.mem_cons.mp hp with rfl | hp
          · exact q
          · exact e5 p hp
        | _ => cases e1
def tSortSet (X : Cx) (ta : TE) : TE := tCB (rSortedT X.K X.prog X.w) (tCons (tCB (rSetOfT X.K X.prog X.w) (tCons ta tNil)) tNil)
theorem same_list {ks L' L : List (Addr × List Int)} (hr : (ks.map (·.2)).Pairwise fun a b => TS.code 4096 a < TS.code 4096 b) (s1 : ∀ p ∈ L, p ∈ ks) (s2 : ∀ p ∈ ks, p.2 ∈ L.map (·.2)) (pm : L'.Perm L) (nd : (L'.map (·.2)).Nodup) (pw : L'.Pairwise fun q r => TS.code 4096 q.2 ≤ TS.code 4096 r.2) : L' = ks := by
  have hk : ks.Pairwise fun q r => TS.code 4096 q.2 < TS.code 4096 r.2 := (List.pairwise_map (f := fun p : Addr × List Int => p.2) (R := fun a b => TS.code 4096 a < TS.code 4096 b)).mp hr
  have inj : ∀ p ∈ ks, ∀ q ∈ ks, TS.code 4096 p.2 = TS.code 4096 q.2 → p = q := by
    intro p hp q hq e
    obtain ⟨i, hi, rfl⟩ := List.getElem_of_mem hp
    obtain ⟨j, hj, rfl⟩ := List.getElem_of_mem hq
    rcases Nat.lt_trichotomy i j with h | h | h
    · have := List.pairwise_iff_getElem.mp hk i j hi hj h
      omega
    · subst h
      rfl
    · have := List.pairwise_iff_getElem.mp hk j i hj hi h
      omega
  have ndk : ks.Nodup := hk.imp fun {a b} h e => by
    subst e
    omega
  have ndl : L'.Nodup := List.Pairwise.of_map (fun p : Addr × List Int => p.2) (fun _ _ hne e => hne (congrArg _ e)) nd
  have mem : ∀ p, p ∈ L' ↔ p ∈ ks := fun p => by
    rw [pm.mem_iff]
    refine ⟨s1 p, fun hp => ?_⟩
    obtain ⟨q, hq, e⟩ := List.mem_map.mp (s2 p hp)
    have := inj q (s1 q hq) p hp (by rw [e])
    rw [← this]
    exact hq
  have pe : L'.Perm ks := (List.perm_ext_iff_of_nodup ndl ndk).mpr mem
  exact List.Perm.eq_of_pairwise (le := fun q r : Addr × List Int => TS.code 4096 q.2 ≤ TS.code 4096 r.2) (fun a b ha hb h1 h2 => inj a ((mem a).mp ha) b hb (by omega)) pw (hk.imp fun {a b} h => by omega) pe
theorem td_sortSet (hk : X.K = K) (ha : TD K E ta da) : TD K E (tSortSet X ta) (dUn fSortSet da) := fun g H Ω ρ σ Q S O h =>
  ha g H Ω ρ σ _ S O (Pst.bind h fun x Ω1 g1 H1 v f1 O1 r1 h1 => by
    subst hk
    have h2 := Pst.pure O1 h1
    cases x with
    | lst ds =>
      obtain ⟨a, vs, rfl, q, rl, z⟩ := r1.lst_inv
      have h2 : PstX X.K g1 H1 (Rp X.K) Q (match trisD ds with | some L => if okSet L = true then some (.lst ds) else none | none => none) := h2
      cases e : trisD ds with
      | none => rw [e] at h2; exact h2.elim
      | some L =>
        rw [e] at h2
        have h4 : PstX X.K g1 H1 (Rp X.K) Q (if okSet L = true then some (.lst ds) else none) := h2
        clear h2
        by_cases c : okSet L = true
        · rw [if_pos c] at h4
          unfold okSet at c
          simp only [Bool.and_eq_true, decide_eq_true_eq, List.all_eq_true] at c
          obtain ⟨c1, c2, c3⟩ := c
          obtain ⟨ks, rfl, e4, e5⟩ := trisD_rp e rl
          subst e4
          rw [List.length_map] at c1
          refine ⟨a, ks, rfl, q.seq, fun p hp => SqT.of (e5 p hp), c1, fun b L hb s1 s2 => ?_⟩
          have x1 : Ext g1 H1 g1 (upd H1 b (SetTO X.prog X.w b L)) := Ext.new hb
          refine ⟨b, L, 3, 4096, rfl, upd_same, fun p hp => SqT.ext (e5 p (s1 p hp)) x1, by decide, fun p hp => ?_, fun L' p pm nd _ pw hp => ?_⟩
          · obtain ⟨d1, d2⟩ := c2 p.2 (List.mem_map_of_mem (s1 p hp))
            exact ⟨d1, fun m hm => d2 m hm⟩
          · have := same_list c3 s1 s2 pm nd pw
            subst this
            exact mkLst (RpL.step x1.fr.toGSt _ _ rl) z (fun g' H' b e r => h4 g' H' b (x1.trans e) r) p hp
        · rw [if_neg c] at h4
          exact h4.elim
    | _ => exact h2.elim)
theorem pd_sortSet {a : Expr} {p p2 q pos : Pos} (hc : X.calm = true) (hu : X.A.units + 65 < cLine) (hg : Gl X "sorted") (hm : X.mg "sorted" = none) (hg2 : Gl X "set") (hm2 : X.mg "set" = none) (ha : PD X K E a ta da)
    (na : starEach [a] X.env = (false, eval a X.env) :: starEach [] X.env := by rfl) (nb : starEach [Expr.Call (.Name "set" p2) [a] [] q] X.env = (false, eval (Expr.Call (.Name "set" p2) [a] [] q) X.env) :: starEach [] X.env := by rfl) :
    PD X K E (.Call (.Name "sorted" p) [.Call (.Name "set" p2) [a] [] q] [] pos) (tSortSet X ta) (dUn fSortSet da) :=
  ⟨ha.k, pe_callB (cr_sortedT hc) hg hm PyProof.Rows.boot_sorted (pa_cons (pe_callTy (cr_setOfT hc (by omega)) hg2 hm2 PyProof.Rows.boot_set (pa_cons ha.pe pa_nil na) (by decide) (by decide) na rfl) pa_nil nb) (by decide) (by decide) nb rfl, td_sortSet ha.k ha.td⟩
end
end Fm
/-! Fm: how many unlike rules a tuple of few tuples of texts and whole numbers holds: len(set(thing)). -/
namespace Fm
open PySem PySem.Spec L2
open PyProof.Rows hiding St

section
variable {P : Program} {w : World} {A : Around} {E : Value → Shared → Prop} {s : Shared}
/-- the hash of a tuple of texts and whole numbers; a tuple that reads so -/
abbrev mH (P : Program) (w : World) (k : List Key) : Int := tupleKeyHash (mixKind P w) k
abbrev mT (P : Program) (w : World) (h : Heap) (k : List Key) (b : Addr) : Prop := IsTupleKey (mixKind P w) h k b
/-- a value that is a text or a whole number -/
def Flat (v : Value) : Prop := (∃ i t, v = Value.int i t) ∨ ∃ x t, v = Value.str x t
theorem Flat.noClass {v : Value} (h : Flat v) (n : Nat) : ofAClassStatement n v = pure false := by
  rcases h with ⟨i, t, rfl⟩ | ⟨x, t, rfl⟩ <;> cases n <;> rfl
theorem Flat.byValue {v : Value} (h : Flat v) (n : Nat) : hashByValue n v = pure true ∨ hashByValue n v = pure false := by
  rcases h with ⟨i, t, rfl⟩ | ⟨x, t, rfl⟩
  · exact .inl (by cases n <;> rfl)
  · exact .inr (by cases n <;> rfl)
theorem flat_items {k : List Key} {vs : List Value} (h : ItemsAre (mixKind P w) k vs) : ∀ v ∈ vs, Flat v := by
  induction h with
  | nil => exact fun _ h => absurd h (by simp)
  | cons h1 _ ih =>
    intro u hu
    cases hu with
    | head =>
      rcases keyIs_shape h1 with ⟨i, t, _, e⟩ | ⟨x, t, _, e⟩
      · exact .inl ⟨i, t, e⟩
      · exact .inr ⟨x, t, e⟩
    | tail _ hm => exact ih u hm
theorem mT_noClass {k : List Key} {b : Addr} {Q : Bool → Shared → Prop} (hk : mT P w s.heap k b) (h : Q false s) : wpAny (model P w) A (ofAClassStatement 8 (.ref b)) Q E s := by
  have ty := hk.typeIs
  obtain ⟨ob, its, m, g1, _, g2, g3⟩ := hk
  unfold ofAClassStatement
  refine wpAny_bind (wpAny_typeOf ty ?_)
  dsimp only
  simp only [show (("tuple" : String) == "tuple") = true by decide, if_true, Bool.not_true, Bool.false_eq_true, if_false]
  show wpAny _ _ (seqItems? (.ref b) >>= _) _ _ s
  refine wpAny_bind (wpAny_seqItems g1 g2 ?_)
  dsimp only
  refine wpAny_bind ?_
  show wpAny _ _ (forIn its _ _) _ _ s
  rw [← Array.forIn_toList]
  refine wpAny_forIn_list _ (fun left r s2 => (∀ v ∈ left, Flat v) ∧ s2 = s ∧ r.1 = none) _ (fun v left r s2 hI => ?_) (fun r s2 hI => ?_) _ _ ⟨flat_items g3, rfl, rfl⟩
  · obtain ⟨fl, rfl, _⟩ := hI
    rw [(fl v List.mem_cons_self).noClass]
    refine wpAny_bind (wpAny_pure ?_)
    simp only [Bool.false_eq_true, if_false]
    exact wpAny_pure ⟨fun u hu => fl u (List.mem_cons_of_mem _ hu), rfl, rfl⟩
  · obtain ⟨r1, r2⟩ := r
    obtain ⟨_, rfl, e⟩ := hI
    have e : r1 = none := e
    subst e
    exact wpAny_pure h
theorem mT_byValue {k : List Key} {b : Addr} {Q : Bool → Shared → Prop} (hk : mT P w s.heap k b) (h : ∀ z, Q z s) : wpAny (model P w) A (hashByValue 8 (.ref b)) Q E s := by
  have ty := hk.typeIs
  obtain ⟨ob, its, m, g1, _, g2, g3⟩ := hk
  unfold hashByValue
  refine wpAny_bind (wpAny_specialOf ty PySem.F.slot_tuple_hash.lookup ?_)
  show wpAny _ _ (seqItems? (.ref b) >>= _) _ _ s
  refine wpAny_bind (wpAny_seqItems g1 g2 ?_)
  refine wpAny_bind ?_
  show wpAny _ _ (forIn its _ _) _ _ s
  rw [← Array.forIn_toList]
  refine wpAny_forIn_list _ (fun left r s2 => (∀ v ∈ left, Flat v) ∧ s2 = s ∧ r.1 = none) _ (fun v left r s2 hI => ?_) (fun r s2 hI => ?_) _ _ ⟨flat_items g3, rfl, rfl⟩
  · obtain ⟨fl, rfl, _⟩ := hI
    rcases (fl v List.mem_cons_self).byValue 7 with e | e
    · rw [e]
      refine wpAny_bind (wpAny_pure ?_)
      simp only [Bool.not_true, Bool.false_eq_true, if_false]
      exact wpAny_pure ⟨fun u hu => fl u (List.mem_cons_of_mem _ hu), rfl, rfl⟩
    · rw [e]
      refine wpAny_bind (wpAny_pure ?_)
      simp only [Bool.not_false, if_true]
      refine wpAny_pure ?_
      exact wpAny_pure (h _)
  · obtain ⟨r1, r2⟩ := r
    obtain ⟨_, rfl, e⟩ := hI
    have e : r1 = none := e
    subst e
    exact wpAny_pure (h _)
/-- what is asked of a search among such tuples: it shows nothing -/
def AllT (P : Program) (w : World) (h : Heap) (ys : List Value) : Prop := ∀ y ∈ ys, ∃ k c, y = Value.ref c ∧ mT P w h k c
theorem mT_unseen {k : List Key} {b : Addr} {Q : Bool → Shared → Prop} (hk : mT P w s.heap k b) {ys : List Value} (hy : AllT P w s.heap ys) (h : Q false s) : wpAny (model P w) A (searchCouldBeSeen (.ref b) ys) Q E s := by
  unfold searchCouldBeSeen
  refine wpAny_bind ?_
  refine wpAny_forIn_list _ (fun left r s2 => AllT P w s2.heap left ∧ s2 = s ∧ r.1 = none) _ (fun v left r s2 hI => ?_) (fun r s2 hI => ?_) _ _ ⟨hy, rfl, rfl⟩
  · obtain ⟨al, rfl, _⟩ := hI
    obtain ⟨k2, c2, rfl, hc2⟩ := al v List.mem_cons_self
    have al2 : AllT P w s2.heap left := fun u hu => al u (List.mem_cons_of_mem _ hu)
    dsimp only
    rcases Classical.em ((b == c2 || (carriedByValue (.ref b) && carriedByValue (.ref c2))) = true) with cv | cv
    · exact wp_if_pos cv (wpAny_pure ⟨al2, rfl, rfl⟩)
    · refine wp_if_neg cv (wpAny_bind (wpAny_eqIsQuiet_tuple hk ?_))
      simp only [Bool.not_true, Bool.false_eq_true, if_false]
      refine wpAny_bind (wpAny_eqIsQuiet_tuple hc2 ?_)
      simp only [Bool.not_true, Bool.false_eq_true, if_false]
      refine wpAny_bind (mT_noClass hk ?_)
      simp only [Bool.false_eq_true, if_false]
      refine wpAny_bind (mT_noClass hc2 ?_)
      simp only [Bool.false_eq_true, if_false]
      exact wpAny_pure ⟨al2, rfl, rfl⟩
  · obtain ⟨r1, r2⟩ := r
    obtain ⟨_, rfl, e⟩ := hI
    have e : r1 = none := e
    subst e
    exact wpAny_pure h
end
section
variable {P : Program} {w : World} {A : Around} {E : Value → Shared → Prop} {s : Shared} {a : Addr} {L : List (Addr × List Key)} {es : Array (Int × Value)} {ep : Nat} {t : SetTable}
/-- a set of at most four such tuples, with its table of eight slots -/
structure Few4 (P : Program) (w : World) (h : Heap) (a : Addr) (L : List (Addr × List Key)) (es : Array (Int × Value)) (ep : Nat) (t : SetTable) : Prop where
  ob : ∃ o, h.get? a = some o ∧ o.ExactSet ∧ o.data = .set es ep t
  row : es.toList = L.map fun u => (mH P w u.2, Value.ref u.1)
  tab : TabOk t (L.map fun u => mH P w u.2)
  nd : (L.map fun u => u.2).Nodup
  tup : ∀ u ∈ L, mT P w h u.2 u.1
  m7 : t.mask = 7
  few : L.length ≤ 4
theorem Few4.size (R : Few4 P w s.heap a L es ep t) : es.size = L.length := by
  rw [← Array.length_toList, R.row, List.length_map]
theorem Few4.slots (R : Few4 P w s.heap a L es ep t) : t.place.size = L.length := R.tab.sz.trans (List.length_map _)
theorem Few4.fits (R : Few4 P w s.heap a L es ep t) : t.fits es.size = true := by
  have a1 := R.size
  have a2 := R.slots
  have a3 := R.few
  have a4 := R.m7
  have a5 : t.dummies.size = 0 := by rw [R.tab.dm] <;> rfl
  unfold SetTable.fits SetTable.fill
  simp only [Bool.and_eq_true, beq_iff_eq, decide_eq_true_eq]
  omega
theorem Few4.entry (R : Few4 P w s.heap a L es ep t) {i : Nat} {u : Addr × List Key} (h : L[i]? = some u) : es[i]? = some (mH P w u.2, Value.ref u.1) := by
  have e := congrArg (fun l : List (Int × Value) => l[i]?) R.row
  simp only [Array.getElem?_toList, List.getElem?_map, h, Option.map_some] at e
  exact e
theorem Few4.stays (R : Few4 P w s.heap a L es ep t) : ¬ t.gaveWay = true := by
  have := R.m7
  unfold SetTable.gaveWay
  rw [this]
  decide
/-- an entry is met: is it the one? -/
theorem met_one (R : Few4 P w s.heap a L es ep t) {x : Addr} {k : List Key} (hx : mT P w s.heap k x) (hu : A.units < cLine) {Q : SetFound → Shared → Prop} {f i j : Nat} {nx : SetTable.Probe} {u : Addr × List Key} (hj : t.place.toList[i]? = some j) (hi : L[i]? = some u)
    (yes : u.2 = k → Q (.there none) s) (on : u.2 ≠ k → wpAny (model P w) A (setSearchFrom a (.ref x) (mH P w k) true f (some nx)) Q E s) : wpAny (model P w) A (searchRest a (.ref x) (mH P w k) true f es t j i nx) Q E s := by
  obtain ⟨ob, g1, _, g2⟩ := R.ob
  have te := R.entry hi
  have live := slot_live R.tab.ris hj
  unfold searchRest
  rw [te]
  dsimp only
  refine wpAny_bind (wpAny_holding (wpAny_eqBool_tuple hu (R.tup u (List.mem_of_getElem? hi)) hx ?_))
  refine wpAny_bind (wpAny_setState_of g1 g2 R.fits ?_)
  dsimp only
  rcases Classical.em (u.2 = k) with e | e
  · exact wp_if_pos (by simp [e]) (wpAny_pure (yes e))
  · refine wp_if_neg (by simp [e]) ?_
    try refine wpAny_bind (wpAny_pure ?_)
    rw [L2.sameMem]
    dsimp only
    simp only [if_true, live, te]
    refine wpAny_bind (wpAny_isSame_ref_self (wpAny_bind (wpAny_pure ?_)))
    simp only [if_true]
    exact wp_if_neg (by simp [e]) (on e)
theorem no_dummy {m : Nat} : ∀ (n : Nat) (p : SetTable.Probe), p.dummy = none → (nth m p n).dummy = none
  | 0, _, h => h
  | n + 1, p, h => no_dummy n (adv m p) (by unfold adv; split <;> exact h)
/-- the search for one to be added, from the step number c on -/
theorem seek (R : Few4 P w s.heap a L es ep t) {x : Addr} {k : List Key} (hx : mT P w s.heap k x) (hu : A.units < cLine) {Q : SetFound → Shared → Prop} {N : Nat} (hN : N < 10 * SetTable.turns t.mask) (free : way t.mask (mH P w k) N ∉ t.place.toList) (busy : ∀ c, c < N → way t.mask (mH P w k) c ∈ t.place.toList)
    (yes : (∃ u ∈ L, u.2 = k) → Q (.there none) s) (no : (∀ u ∈ L, u.2 ≠ k) → Q (.free (way t.mask (mH P w k) N) false) s) :
    ∀ (f c : Nat) (sd : Option SetTable.Probe), c ≤ N → N - c < f → sd.getD (t.probeStart (mH P w k)) = nth t.mask (t.probeStart (mH P w k)) c → (∀ (i : Nat) (u : Addr × List Key), L[i]? = some u → u.2 = k → ∃ d, c ≤ d ∧ d < N ∧ t.place.toList[i]? = some (way t.mask (mH P w k) d)) →
      wpAny (model P w) A (setSearchFrom a (.ref x) (mH P w k) true f sd) Q E s
  | 0, c, sd, _, hf, _, _ => absurd hf (Nat.not_lt_zero _)
  | f + 1, c, sd, hc, hf, hsd, ahead => by
    obtain ⟨ob, g1, _, g2⟩ := R.ob
    have start : t.probeStart (mH P w k) = runAt t.mask (SetTable.bits (mH P w k) % (t.mask + 1)) (SetTable.bits (mH P w k)) := rfl
    have at_ : ∀ q, (nth t.mask (nth t.mask (t.probeStart (mH P w k)) c) q).j = way t.mask (mH P w k) (c + q) := fun q => by rw [start, ← nth_add]
    have hash : ∀ (i : Nat) (u : Addr × List Key), L[i]? = some u → ((es[i]?).map (·.1)).getD 0 = mH P w u.2 := fun i u hi => by rw [R.entry hi] <;> rfl
    have spec := go_spec t R.tab.ris R.tab.dm (fun i => (es[i]?.map (·.1)).getD 0) (mH P w k) (10 * SetTable.turns t.mask) (N - c) (nth t.mask (t.probeStart (mH P w k)) c) (no_dummy c _ rfl) (by omega) (fun q hq => by rw [at_]; exact busy _ (by omega)) (by rw [at_, show c + (N - c) = N by omega]; exact free)
    rw [setSearchFrom_succ]
    refine wpAny_bind (wpAny_setState_of g1 g2 R.fits ?_)
    dsimp only
    refine wp_if_neg R.stays ?_
    try refine wpAny_bind (wpAny_pure ?_)
    rw [hsd]
    rcases spec with ⟨q, i, q1, q2, q3, q4, q5⟩ | ⟨q4, q5⟩
    · rw [show t.probe (fun i => (es[i]?.map (·.1)).getD 0) (mH P w k) (nth t.mask (t.probeStart (mH P w k)) c) = _ from q5]
      dsimp only
      rw [at_] at q2 ⊢
      have il : i < L.length := by
        have b := (List.getElem?_eq_some_iff.mp q2).1
        rw [Array.length_toList, R.slots] at b
        exact b
      obtain ⟨u, hi⟩ : ∃ u, L[i]? = some u := ⟨_, List.getElem?_eq_getElem il⟩
      have goal : wpAny (model P w) A (searchRest a (.ref x) (mH P w k) true f es t (way t.mask (mH P w k) (c + q)) i (nth t.mask (nth t.mask (t.probeStart (mH P w k)) c) (q + 1))) Q E s := by
        refine met_one R hx hu q2 hi (fun e => yes ⟨u, List.mem_of_getElem? hi, e⟩) fun ne => ?_
        refine seek R hx hu hN free busy yes no f (c + (q + 1)) _ (by omega) (by omega) (by rw [← nth_add] <;> rfl) fun i2 u2 hi2 e2 => ?_
        obtain ⟨d, d1, d2, d3⟩ := ahead i2 u2 hi2 e2
        refine ⟨d, Classical.byContradiction fun hd => ?_, d2, d3⟩
        rcases (by omega : d < c + q ∨ d = c + q) with lt | eq
        · refine q4 (d - c) i2 (by omega) (by rw [at_, show c + (d - c) = d by omega]; exact d3) ?_
          rw [hash i2 u2 hi2, e2]
        · rw [eq] at d3
          have l1 := slot_live R.tab.ris d3
          rw [slot_live R.tab.ris q2] at l1
          injection l1 with l1
          rw [← l1, hi] at hi2
          cases hi2
          exact ne e2
      rcases Classical.em (t.led = true) with ld | ld
      · refine wp_if_neg (by simp [ld]) ?_
        try refine wpAny_bind (wpAny_pure ?_)
        exact goal
      · refine wp_if_pos (by simp [ld]) ?_
        refine wpAny_bind (mT_unseen hx (fun y hy => ?_) ?_)
        · obtain ⟨e, e1, rfl⟩ := List.mem_map.mp hy
          have e2 : e ∈ es.toList := by
            have e3 := Array.mem_toList_iff.mp e1
            exact Array.mem_toList_iff.mpr (Array.mem_filter.mp e3).1
          rw [R.row] at e2
          obtain ⟨v, hv, rfl⟩ := List.mem_map.mp e2
          exact ⟨v.2, v.1, rfl, R.tup v hv⟩
        · refine wp_if_neg (by decide) ?_
          try refine wpAny_bind (wpAny_pure ?_)
          exact goal
    · rw [show t.probe (fun i => (es[i]?.map (·.1)).getD 0) (mH P w k) (nth t.mask (t.probeStart (mH P w k)) c) = _ from q5]
      dsimp only
      rw [at_, show c + (N - c) = N by omega]
      refine wpAny_pure (no fun u hu2 e => ?_)
      obtain ⟨i, hi, rfl⟩ := List.getElem_of_mem hu2
      have hi := List.getElem?_eq_getElem hi
      obtain ⟨d, d1, d2, d3⟩ := ahead i _ hi e
      refine q4 (d - c) i (by omega) (by rw [at_, show c + (d - c) = d by omega]; exact d3) ?_
      rw [hash i _ hi, e]
end
section
variable {P : Program} {w : World} {A : Around} {E : Value → Shared → Prop} {s : Shared} {a : Addr} {L : List (Addr × List Key)} {es : Array (Int × Value)} {ep : Nat} {t : SetTable}
theorem mT_but {h h' : Heap} {k : List Key} {a b : Addr} {o : Obj} {es : Array (Int × Value)} {ep : Nat} {t : SetTable} (hb : mT P w h k b) (ho : h.get? a = some o) (hd : o.data = .set es ep t) (hs : Heap.SameBut a h h') : mT P w h' k b := by
  obtain ⟨ob, its, m, g1, g2, g3, g4⟩ := hb
  refine ⟨ob, its, m, (hs.2 b fun e => ?_).trans g1, g2, g3, g4⟩
  rw [e, ho] at g1
  cases g1
  rw [hd] at g3
  cases g3
theorem pop_perm {α : Type} (L : List α) (n : Nat) (x : α) : (L.take n ++ x :: L.drop n).Perm (x :: L) := by
  have := List.perm_middle (a := x) (l₁ := L.take n) (l₂ := L.drop n)
  rw [List.take_append_drop] at this
  exact this
/-- one is added -/
theorem put_in (R : Few4 P w s.heap a L es ep t) {x : Addr} {k : List Key} (hx : mT P w s.heap k x) (hu : A.units < cLine) (h3 : L.length ≤ 3) {Q : Bool → Shared → Prop}
    (hQ : ∀ b h' L' es' ep' t', Heap.SameBut a s.heap h' → Few4 P w h' a L' es' ep' t' → ((L' = L ∧ ∃ u ∈ L, u.2 = k) ∨ L'.Perm ((x, k) :: L)) → Q b { s with heap := h' }) :
    wpAny (model P w) A (setAddHashed a (.ref x) (mH P w k)) Q E s := by
  obtain ⟨ob, g1, gx, g2⟩ := R.ob
  have sz := R.size
  obtain ⟨N, n1, n2, n3⟩ := R.tab.first (by rw [List.length_map, R.m7]; omega) (mH P w k)
  have big : N < 100000 := by
    have : SetTable.turns t.mask ≤ 142 := by
      unfold SetTable.turns
      rw [R.m7]
      omega
    omega
  unfold setAddHashed
  refine wpAny_holding ?_
  rw [show (100000 : Nat) = 99999 + 1 from rfl, setAddHashedIn_succ]
  refine wpAny_bind (wpAny_setState_of g1 g2 R.fits ?_)
  dsimp only
  refine wp_if_neg (by simp [byScan, Value.scannable]) ?_
  try refine wpAny_bind (wpAny_pure ?_)
  refine wpAny_bind ?_
  unfold setSearch
  refine seek R hx hu n1 n2 n3 (fun had => ?_) (fun new => ?_) 100000 0 none (Nat.zero_le _) (by omega) rfl fun i u hi e => ?_
  · dsimp only
    exact wpAny_pure (hQ false s.heap L es ep t (Heap.SameBut.refl a s.heap) R (.inl ⟨rfl, had⟩))
  · dsimp only
    refine wpAny_bind (wpAny_setState_of g1 g2 R.fits ?_)
    dsimp only
    obtain ⟨q1, q2, q3, q4, q5, q6, q7, q8, q9⟩ := R.tab.put n2 n3
    generalize t.put (way t.mask (mH P w k) N) = pt at q1 q3 q4 q5 q6 q7 q8 q9 ⊢
    obtain ⟨t1, n⟩ := pt
    dsimp only at q1 q3 q4 q5 q6 q7 q8 q9 ⊢
    subst q1
    have rows : (SetTable.insertAt es (SetTable.below t.place (way t.mask (mH P w k) N)) (mH P w k, Value.ref x)).toList = (L.take (SetTable.below t.place (way t.mask (mH P w k) N)) ++ (x, k) :: L.drop (SetTable.below t.place (way t.mask (mH P w k) N))).map fun u => (mH P w u.2, Value.ref u.1) := by
      rw [SetTable.toList_insertAt, R.row, List.map_append, List.map_cons, List.map_take, List.map_drop]
    have tabs : TabOk t1 ((L.take (SetTable.below t.place (way t.mask (mH P w k) N)) ++ (x, k) :: L.drop (SetTable.below t.place (way t.mask (mH P w k) N))).map fun u => mH P w u.2) := by
      rw [List.map_append, List.map_cons, List.map_take, List.map_drop]
      exact q3
    have pm := pop_perm L (SetTable.below t.place (way t.mask (mH P w k) N)) (x, k)
    clear q2 q3
    generalize L.take (SetTable.below t.place (way t.mask (mH P w k) N)) ++ (x, k) :: L.drop (SetTable.below t.place (way t.mask (mH P w k) N)) = L1 at rows tabs pm
    have len1 : L1.length = L.length + 1 := pm.length_eq
    have esz : (SetTable.insertAt es (SetTable.below t.place (way t.mask (mH P w k) N)) (mH P w k, Value.ref x)).size = L.length + 1 := by
      rw [← Array.length_toList, rows, List.length_map, len1]
    generalize SetTable.insertAt es (SetTable.below t.place (way t.mask (mH P w k) N)) (mH P w k, Value.ref x) = es1 at rows esz ⊢
    have nd1 : (L1.map fun u => u.2).Nodup := by
      refine (pm.map _).nodup_iff.mpr ?_
      rw [List.map_cons]
      refine List.nodup_cons.mpr ⟨fun hm => ?_, R.nd⟩
      obtain ⟨u, hu2, e⟩ := List.mem_map.mp hm
      exact new u hu2 e
    have last : ∀ t2 : SetTable, TabOk t2 (L1.map fun u => mH P w u.2) → t2.mask = 7 → t2.tooFull = false → wpAny (model P w) A (storeSet a es1 t2) (fun _ s' => ∀ b, Q b s' ∧ t2.tooFull = false) E s := fun t2 k1 k2 k3 => by
      refine wpAny_storeSet_of g1 g2 ?_ (by rw [esz, sizeLine_eq]; omega)
      intro b
      have sb : Heap.SameBut a s.heap (s.heap.update a (Obj.putSet es1 t2)) := Heap.SameBut.update ..
      have so := store_at (es' := es1) (t' := t2) g1 g2
      refine ⟨hQ b _ L1 es1 (ep + 1) t2 sb ⟨⟨_, so, ⟨gx.1, gx.2.1, gx.2.2⟩, rfl⟩, rows, k1, nd1, fun u hu2 => ?_, k2, by rw [len1]; omega⟩ (.inr pm), k3⟩
      rcases List.mem_cons.mp (pm.mem_iff.mp hu2) with rfl | hu2
      · exact mT_but hx g1 g2 sb
      · exact mT_but (R.tup u hu2) g1 g2 sb
    have tf : ∀ t2 : SetTable, t2.fill = t1.fill → t2.mask = t1.mask → t2.tooFull = false := fun t2 k1 k2 => by
      unfold SetTable.tooFull
      rw [k1, k2, q9, q4, R.m7, List.length_map]
      exact decide_eq_false (by omega)
    have m1 : t1.mask = 7 := q4.trans R.m7
    have both : ∀ z : Bool, TabOk (if z = true then t1 else { t1 with plain := false }) (L1.map fun u => mH P w u.2) ∧ (if z = true then t1 else { t1 with plain := false }).mask = 7 ∧ (if z = true then t1 else { t1 with plain := false }).tooFull = false := fun z => by
      cases z with
      | true => exact ⟨tabs, m1, tf t1 rfl rfl⟩
      | false => exact ⟨⟨tabs.ris, tabs.dm, tabs.sz, tabs.mok, tabs.bd, tabs.reach⟩, m1, tf _ rfl rfl⟩
    have fin : ∀ t2 : SetTable, TabOk t2 (L1.map fun u => mH P w u.2) → t2.mask = 7 → t2.tooFull = false → wpAny (model P w) A (storeSet a es1 t2 >>= fun _ => if (!false && t2.tooFull) = true then (setRelay a (SetTable.grown (es.size + 1)) >>= fun _ => pure true) else pure true) Q E s := fun t2 k1 k2 k3 =>
      wpAny_bind (wpAny_mono (last t2 k1 k2 k3) (fun _ s' hr => wp_if_neg (by rw [k3]; decide) (wpAny_pure (hr true).1)) fun _ _ h => h)
    rcases Classical.em (t1.plain = true) with c | c
    · exact wp_if_pos c (wpAny_bind (mT_byValue hx fun z => fin _ (both z).1 (both z).2.1 (both z).2.2))
    · exact wp_if_neg c (wpAny_bind (wpAny_pure (fin _ (both true).1 (both true).2.1 (both true).2.2)))
  · have hi2 : (L.map fun u => mH P w u.2)[i]? = some (mH P w k) := by rw [List.getElem?_map, hi, ← e] <;> rfl
    have il : i < t.place.toList.length := by
      rw [Array.length_toList, R.slots]
      exact (List.getElem?_eq_some_iff.mp hi).1
    have hj := List.getElem?_eq_getElem il
    obtain ⟨d, d1, d2⟩ := R.tab.before n2 hi2 hj
    exact ⟨d, Nat.zero_le _, d1, by rw [hj, d2]⟩
/-- what stands in the set behind the first n items -/
structure Upto (ks : List (Addr × List Key)) (n : Nat) (L : List (Addr × List Key)) : Prop where
  sub : ∀ u ∈ L, u ∈ ks
  has : ∀ i u, i < n → ks[i]? = some u → ∃ v ∈ L, v.2 = u.2
  len : L.length ≤ n
theorem mT_grow {h h' : Heap} {k : List Key} {b : Addr} (x : mT P w h k b) (g : ∀ c o, h.get? c = some o → h'.get? c = some o) : mT P w h' k b := by
  obtain ⟨ob, its, m, g1, r⟩ := x
  exact ⟨ob, its, m, g b ob g1, r⟩
theorem Few4.grow {h h' : Heap} (R : Few4 P w h a L es ep t) (g1 : ∀ o, h.get? a = some o → h'.get? a = some o) (g2 : ∀ u ∈ L, mT P w h' u.2 u.1) : Few4 P w h' a L es ep t := by
  obtain ⟨ob, e, r⟩ := R.ob
  exact ⟨⟨ob, g1 ob e, r⟩, R.row, R.tab, R.nd, g2, R.m7, R.few⟩
/-- the items are added, one behind the other -/
theorem add_all {I S : Addr} {fp wr : List Addr} {G : Array GenState → Array GenState → Prop} {n : Nat} {Pv : Nat → Value → Prop} {St : Nat → Shared → Prop} {Rs : Result → Shared → Prop}
    (W : WalksS P w A.in1 I fp wr G n Pv St) (out : S ∉ fp) (ks : List (Addr × List Key)) (hn : n = ks.length) (h4 : ks.length ≤ 4) (item : ∀ i v, Pv i v → ∃ u, ks[i]? = some u ∧ v = .ref u.1)
    (old : Heap) (hk : ∀ u ∈ ks, mT P w old u.2 u.1) (noS : old.get? S = none) (noW : ∀ b ∈ wr, old.get? b = none) (hu : A.in1.units < cLine) :
    ∀ (left i : Nat) (s : Shared), i + left = n → St i s → (∀ b o, old.get? b = some o → s.heap.get? b = some o) → (∃ L es ep t, Few4 P w s.heap S L es ep t ∧ Upto ks i L) →
      (∀ s' L es ep t, Moved (S :: wr) G s s' → Few4 P w s'.heap S L es ep t → Upto ks n L → (∀ b o, old.get? b = some o → s'.heap.get? b = some o) → Rs (.ok (.ret .none)) s') →
      codeAny (model P w) A (.builtin "set.update.loop" ⟨[.ref S, .ref I], []⟩) Rs s := by
  have oW : S ∉ wr := fun h => out (W.sub _ h)
  have inS : ∀ b ∈ wr, b ∈ S :: wr := fun b hb => List.mem_cons_of_mem _ hb
  have hold : ∀ {s s' : Shared}, Moved wr G s s' → (∀ b o, old.get? b = some o → s.heap.get? b = some o) → ∀ b o, old.get? b = some o → s'.heap.get? b = some o := fun mv h b o e =>
    mv.heap b o (fun hb => by rw [noW b hb] at e; cases e) (h b o e)
  intro left
  induction left with
  | zero =>
    rintro i s hi hst keep ⟨L, es, ep, t, R, U⟩ done
    have e : i = n := by omega
    subst e
    refine codeAny_builtin PyProof.Rows.F.entry_set_update_loop ?_
    rw [Around.under_plainId PyProof.Rows.F.plain_set_update_loop _]
    show wpAny _ A.in1 (pyNext (.ref I) >>= _) _ _ s
    refine wpAny_bind (W.done s _ _ hst fun s' mv => ?_)
    have keep' := hold mv keep
    show wpAny _ A.in1 (ret Value.none) _ _ s'
    exact wpAny_pure (done s' L es ep t (mv.mono inS) (R.grow (fun o e => mv.heap S o oW e) fun u hu2 => mT_grow (hk u (U.sub u hu2)) keep') U keep')
  | succ left ih =>
    rintro i s hi hst keep ⟨L, es, ep, t, R, U⟩ done
    refine codeAny_builtin PyProof.Rows.F.entry_set_update_loop ?_
    rw [Around.under_plainId PyProof.Rows.F.plain_set_update_loop _]
    show wpAny _ A.in1 (pyNext (.ref I) >>= _) _ _ s
    refine wpAny_bind (W.item i s _ _ (by omega) hst fun v s' pv hst' mv => ?_)
    obtain ⟨u, gu, rfl⟩ := item i v pv
    have keep' := hold mv keep
    have R' : Few4 P w s'.heap S L es ep t := R.grow (fun o e => mv.heap S o oW e) fun z hz => mT_grow (hk z (U.sub z hz)) keep'
    have hx : mT P w s'.heap u.2 u.1 := mT_grow (hk u (List.mem_of_getElem? gu)) keep'
    have ik : i < ks.length := (List.getElem?_eq_some_iff.mp gu).1
    show wpAny _ A.in1 (holding [Value.ref u.1] (setAdd S (.ref u.1)) >>= _) _ _ s'
    refine wpAny_bind (wpAny_holding ?_)
    unfold setAdd
    refine wpAny_holding ?_
    refine wpAny_bind (wpAny_pyHash_tuple hu hx ?_)
    refine put_in (s := { s' with toks := s'.toks + (u.2.length + 1) }) R' hx hu (by have := U.len; omega) fun b h' L' es' ep' t' sb R2 how => ?_
    have U' : Upto ks (i + 1) L' := by
      rcases how with ⟨rfl, z, hz, ez⟩ | pm
      · refine ⟨U.sub, fun j y hj hy => ?_, Nat.le_succ_of_le U.len⟩
        by_cases ej : j = i
        · rw [ej, gu] at hy
          cases hy
          exact ⟨z, hz, ez⟩
        · exact U.has j y (by omega) hy
      · refine ⟨fun z hz => ?_, fun j y hj hy => ?_, by rw [pm.length_eq, List.length_cons]; have := U.len; omega⟩
        · rcases List.mem_cons.mp (pm.mem_iff.mp hz) with rfl | hz
          · exact List.mem_of_getElem? gu
          · exact U.sub z hz
        · by_cases ej : j = i
          · rw [ej, gu] at hy
            cases hy
            exact ⟨(u.1, u.2), pm.mem_iff.mpr List.mem_cons_self, rfl⟩
          · obtain ⟨z, hz, ez⟩ := U.has j y (by omega) hy
            exact ⟨z, pm.mem_iff.mpr (List.mem_cons_of_mem _ hz), ez⟩
    have keep2 : ∀ b o, old.get? b = some o → h'.get? b = some o := fun b o e => (sb.2 b fun z => by rw [z, noS] at e; cases e).trans (keep' b o e)
    refine wpAny_pure ⟨plainId_quiet PyProof.Rows.F.plain_set_update_loop _, ih (i + 1) _ (by omega) (W.frame _ s' _ _ hst' (Nat.le_add_right _ _) fun b hb o e => ?_) keep2 ⟨L', es', ep', t', R2, U'⟩ fun s2 L2 es2 ep2 t2 mv2 R3 U3 keep3 => ?_⟩
    · exact (sb.2 b fun z => out (by rw [← z]; exact hb)).trans e
    · refine done s2 L2 es2 ep2 t2 (Moved.trans W.gtrans ((mv.mono inS).then_heap (Nat.le_add_right _ _) fun b o hb e => ?_) mv2) R3 U3 keep3
      exact (sb.2 b fun z => hb (by rw [z]; exact List.mem_cons_self)).trans e
end
section
variable {P : Program} {w : World} {A : Around} {E : Value → Shared → Prop} {s : Shared}
/-- a new set -/
def setO (led : Bool) : Obj := { cls := .type "set", dict := none, data := .set #[] 0 (.fresh 0 0 led) }
theorem few4_new {h : Heap} {a : Addr} {led : Bool} (ho : h.get? a = some (setO led)) : Few4 P w h a [] #[] 0 (.fresh 0 0 led) :=
  ⟨⟨_, ho, ⟨rfl, rfl, rfl⟩, rfl⟩, rfl, ⟨List.Pairwise.nil, rfl, rfl, .inl rfl, fun x hx => (nomatch hx), fun i h j hi => (by simp at hi)⟩, List.nodup_nil, fun u hu => (nomatch hu), rfl, Nat.zero_le _⟩
/-- set.__init__ of the new set: the loop over the tuple -/
theorem init_loop {l : Addr} {items : Array Value} {led : Bool} (ks : List (Addr × List Key)) (hh : A.handled = none) (hl : s.heap.IsTuple l items) (hit : items.toList = ks.map fun u => Value.ref u.1) (hk : ∀ u ∈ ks, mT P w s.heap u.2 u.1) (h4 : ks.length ≤ 4) (hu : A.in1.units < cLine) {Rs : Result → Shared → Prop}
    (done : ∀ (h' : Heap) (tk : Nat) L es ep t, Few4 P w h' s.heap.objs.size L es ep t → Upto ks ks.length L → (∀ b o, s.heap.get? b = some o → h'.get? b = some o) → Rs (.ok (.ret .none)) { s with heap := h', toks := tk }) :
    codeAny (model P w) A (.builtin "set.update.loop" ⟨[.ref s.heap.objs.size, .ref (s.heap.push (setO led)).objs.size], []⟩) Rs { s with heap := (s.heap.push (setO led)).push { cls := .type "tuple_iterator", data := .fields #[.ref l, .int 0 0] } } := by
  obtain ⟨ol, hol, hcl, nl, hdl⟩ := hl
  have ls : l < s.heap.objs.size := Heap.lt_size hol
  have sz1 : (s.heap.push (setO led)).objs.size = s.heap.objs.size + 1 := Heap.size_push ..
  have it1 : (s.heap.push (setO led)).IsTuple l items := ⟨_, Heap.get?_push_of_some _ hol, hcl, nl, hdl⟩
  have ne1 : l ≠ (s.heap.push (setO led)).objs.size := by rw [sz1]; exact Nat.ne_of_lt (Nat.lt_succ_of_lt ls)
  have isz : items.size = ks.length := by rw [← Array.length_toList, hit, List.length_map]
  have fresh : ∀ b, s.heap.objs.size ≤ b → s.heap.get? b = none := fun b hb => by
    cases q : s.heap.get? b with
    | none => rfl
    | some o =>
      exact absurd (Nat.lt_of_lt_of_le (Heap.lt_size q) hb) (Nat.lt_irrefl _)
  have out : s.heap.objs.size ∉ [(s.heap.push (setO led)).objs.size, l] := by
    rw [sz1]
    simp only [List.mem_cons, List.not_mem_nil, or_false, not_or]
    exact ⟨Nat.ne_of_lt (Nat.lt_succ_self _), Nat.ne_of_gt ls⟩
  refine add_all ((Walks.tuple (A := A.in1) (by simp [hh]) _ l ne1 items).toS) out ks isz h4 (fun i v hv => ?_) s.heap hk (fresh _ (Nat.le_refl _)) (fun b hb => fresh b ?_) hu items.size 0 _ (Nat.zero_add _) ⟨⟨_, Heap.get?_push_size _ rfl, rfl, rfl⟩, it1.push _⟩ (fun b o e => Heap.get?_push_of_some _ (Heap.get?_push_of_some _ e)) ⟨[], #[], 0, _, few4_new (Heap.get?_push_of_some _ (Heap.get?_push_size _ rfl)), ⟨fun u hu => (nomatch hu), fun i u hi => absurd hi (Nat.not_lt_zero _), Nat.le_refl _⟩⟩ fun s' L es ep t mv R U keep => ?_
  · have q : items.toList[i]? = some v := by rw [Array.getElem?_toList]; exact hv
    rw [hit, List.getElem?_map] at q
    obtain ⟨u, e1, e2⟩ := Option.map_eq_some_iff.mp q
    exact ⟨u, e1, e2.symm⟩
  · rw [List.mem_singleton.mp hb, sz1]
    exact Nat.le_succ _
  · obtain ⟨h', g', d', tk', os'⟩ := s'
    have eg : g' = s.gens := mv.gens
    have ed : d' = s.drawn := mv.drawn
    have eo : os' = s.os := mv.os
    subst eg ed eo
    rw [isz] at U
    exact done h' tk' L es ep t R U keep
end
section
variable {P : Program} {w : World} {A : Around} {E : Value → Shared → Prop} {s : Shared}
/-- set(xs), xs a tuple of at most four tuples of texts and whole numbers -/
theorem call_setM {l : Addr} {items : Array Value} (ks : List (Addr × List Key)) {Q : Value → Shared → Prop} (hh : A.handled = none) (hl : s.heap.IsTuple l items) (hit : items.toList = ks.map fun u => Value.ref u.1) (hk : ∀ u ∈ ks, mT P w s.heap u.2 u.1) (h4 : ks.length ≤ 4) (hu : A.units + 3 < cLine)
    (end_ : ∀ (h' : Heap) (tk : Nat) L es ep t, Few4 P w h' s.heap.objs.size L es ep t → Upto ks ks.length L → (∀ b o, s.heap.get? b = some o → h'.get? b = some o) → Q (.ref s.heap.objs.size) { s with heap := h', toks := tk }) : wpAny (model P w) A (call (.type "set") [.ref l]) Q E s := by
  have mro := PySem.F.called_set.mro
  obtain ⟨cc, rest, hmro⟩ := mro
  have m1 := PySem.F.called_set.made
  have m2 := PySem.F.called_set.sub
  have m3 := PySem.F.called_set.notType
  have m4 := PySem.F.called_set.canCreate
  have m5 := PySem.F.typeCall_set_1 (.ref l)
  refine wpAny_call (codeAny_of_tree ?_)
  show wpAny _ _ (callAny (.type "set") _) _ _ _
  refine wpAny_pure ⟨Code.quiet_builtin _ (by decide +kernel), codeAny_builtin PySem.F.entry_type_call ?_⟩
  rw [Around.under_plain (weight_type_call_type "set" [.ref l] []) rfl]
  repeat (any_goals (first | assumption | wp_step))
  refine codeAny_mono (code_set_new_1 (.ref l) (E := E) (Q₁ := fun obj s1 => ∃ led, obj = .ref s.heap.objs.size ∧ s1 = { s with heap := s.heap.push (setO led) }) fun led => ⟨led, rfl, rfl⟩) fun r s1 hr => ?_
  match r, hr with
  | .error e, hr => exact hr
  | .ok (.ret obj), hr =>
    obtain ⟨led, rfl, rfl⟩ := hr
    have got : (s.heap.push (setO led)).get? s.heap.objs.size = some (setO led) := Heap.get?_push_size _ rfl
    have ty : Shared.TypeIs { s with heap := s.heap.push (setO led) } (.ref s.heap.objs.size) "set" := ⟨_, got, rfl⟩
    have n1 := PySem.F.called_set.init.lookup
    have n2 := PySem.F.called_set.init.bind (.ref s.heap.objs.size)
    repeat (any_goals (first | assumption | wp_step))
    refine codeAny_mono (codeAny_call_builtin (R := wants (fun r s2 => r = .none ∧ ∃ h' tk L es ep t, s2 = { s with heap := h', toks := tk } ∧ Few4 P w h' s.heap.objs.size L es ep t ∧ Upto ks ks.length L ∧ ∀ b o, s.heap.get? b = some o → h'.get? b = some o) E) PySem.F.called_set.init.plain PySem.F.entry_set_init (check_set_init_1 ty ?_)) fun r2 s2 hr2 => ?_
    · have lt1 : (s.heap.push (setO led)).IsTuple l items := by
        obtain ⟨ol, a1, a2, a3, a4⟩ := hl
        exact ⟨_, Heap.get?_push_of_some _ a1, a2, a3, a4⟩
      have lt2 := lt1
      obtain ⟨⟨oc, od, ot, os⟩, a1, a2, nl, a4⟩ := lt2
      simp only at a2 a4
      subst a2 a4
      have b1 := PySem.F.sub_tuple_set
      have b2 := PySem.F.sub_tuple_frozenset
      have b3 : (Value.type "tuple" == Value.type "dict") = false := by decide
      unfold Builtin.«set.__init__» noKeywords Builtin.Frozenset.updateFrom
      generalize hpi : pyIter = pi
      wp_walk
      subst hpi
      refine wpAny_pyIter_tuple lt1 ?_
      refine wpAny_bind (wpAny_runValue ?_)
      refine init_loop ks (by simp [hh]) hl hit hk h4 hu fun h' tk L es ep t R U keep => ?_
      show wpAny _ _ _ _ _ _
      refine wpAny_pure ?_
      show wpAny _ _ (ret Value.none) _ _ _
      exact wpAny_pure ⟨rfl, h', tk, L, es, ep, t, rfl, R, U, keep⟩
    · match r2, hr2 with
      | .error e, hr2 => exact hr2
      | .ok (.ret z), hr2 =>
        obtain ⟨rfl, h', tk, L, es, ep, t, rfl, R, U, keep⟩ := hr2
        repeat (any_goals (first | assumption | wp_step))
        exact end_ _ _ _ _ _ _ R U keep
end
/-! the rule -/
def keyD : D → Option Key
  | .int i => some (.inl i)
  | .str l => some (.inr ⟨l.toArray⟩)
  | _ => none
def rowD : List D → Option (List Key)
  | [] => some []
  | d :: ds => match keyD d, rowD ds with
    | some k, some r => some (k :: r)
    | _, _ => none
def tupD : D → Option (List Key)
  | .tup ds => rowD ds
  | _ => none
def rowsD : List D → Option (List (List Key))
  | [] => some []
  | d :: ds => match tupD d, rowsD ds with
    | some k, some r => some (k :: r)
    | _, _ => none
/-- each one once -/
def dd {α : Type} [DecidableEq α] : List α → List α
  | [] => []
  | x :: xs => if x ∈ xs then dd xs else x :: dd xs
theorem dd_mem {α : Type} [DecidableEq α] : ∀ {xs : List α} {y : α}, y ∈ dd xs ↔ y ∈ xs
  | [], y => Iff.rfl
  | x :: xs, y => by
    unfold dd
    by_cases h : x ∈ xs
    · rw [if_pos h, dd_mem, List.mem_cons]
      exact ⟨.inr, fun q => q.elim (fun e => by rw [e]; exact h) id⟩
    · rw [if_neg h, List.mem_cons, dd_mem, List.mem_cons]
theorem dd_nd {α : Type} [DecidableEq α] : ∀ (xs : List α), (dd xs).Nodup
  | [] => List.nodup_nil
  | x :: xs => by
    unfold dd
    by_cases h : x ∈ xs
    · rw [if_pos h]
      exact dd_nd xs
    · rw [if_neg h]
      exact List.nodup_cons.mpr ⟨fun q => h (dd_mem.mp q), dd_nd xs⟩
def fLenSetM : D → Option D
  | .tup ds => match rowsD ds with
    | some L => if L.length ≤ 4 then some (.int ((dd L).length : Nat)) else none
    | none => none
  | _ => none
def tLenSetM (K : PySem.W.Frag) (ta : TE) : TE := fun σ H Q => ta σ H fun x H1 => ∃ (l : Addr) (ks : List (Addr × List Key)), x = V.ref l ∧ SqT K H1 l (ks.map fun u => V.ref u.1) ∧ (∀ u ∈ ks, SqT K H1 u.1 (u.2.map kV)) ∧ ks.length ≤ 4 ∧
  Q (.int ((dd (ks.map fun u => u.2)).length : Nat)) H1
section
variable {X : Cx} {K : PySem.W.Frag} {E : XK} {ta : TE} {da : DE} {g : G} {H : Hp}
theorem mixed_vals {P : Program} {w : World} : ∀ {k : List Key} {us : List Value}, Vals (k.map kV) us → ItemsAre (mixKind P w) k us
  | [], _, .nil => .nil
  | .inl i :: k, _, .cons r t => by
    obtain ⟨tk, rfl⟩ := r
    exact .cons (mixKind_int P w i tk) (mixed_vals t)
  | .inr x :: k, _, .cons r t => by
    obtain ⟨tk, rfl⟩ := r
    exact .cons (mixKind_str P w x tk) (mixed_vals t)
theorem ref_vals : ∀ {ks : List (Addr × List Key)} {us : List Value}, Vals (ks.map fun u => V.ref u.1) us → us = ks.map fun u => Value.ref u.1
  | [], _, .nil => rfl
  | u :: ks, _, .cons r t => by
    cases r
    rw [ref_vals t] <;> rfl
theorem inv_mT {pins : List (Addr × Obj)} {σ : L2.St} {s : Shared} {b : Addr} {k : List Key} (I : Inv X pins σ H s) (h : SqT X.K H b (k.map kV)) : mT X.prog X.w s.heap k b := by
  obtain ⟨its, r, ⟨o, e1, e2, n, e3⟩, _⟩ := I.tuple h
  exact ⟨o, its.toArray, n, e1, e2, e3, by simpa using mixed_vals r⟩
theorem pe_lenSetM {a : Expr} {p p2 q pos : Pos} (hc : X.calm = true) (hu : X.A.units + 65 < cLine) (hg : Gl X "len") (hm : X.mg "len" = none) (hg2 : Gl X "set") (hm2 : X.mg "set" = none) (ha : PE X a ta)
    (na : starEach [a] X.env = (false, eval a X.env) :: starEach [] X.env := by rfl) : PE X (.Call (.Name "len" p) [.Call (.Name "set" p2) [a] [] q] [] pos) (tLenSetM X.K ta) := by
  refine ⟨fun pins s σ H Q I h => ?_⟩
  refine Call_ (ld_blt I hg hm PySem.boot_len ?_)
  refine PyProof.Rows.callWith_builtin1 (PyProof.Rows.args_cons ?_ rfl) rfl rfl
  refine Call_ (ld_blt I hg2 hm2 PyProof.Rows.boot_set ?_)
  refine PyProof.Rows.callWith_type1 (PyProof.Rows.args_cons (thn (ha.run pins s σ H _ I h) fun v s1 ⟨x, H1, I1, r1, q1⟩ => PyProof.Rows.args_nil ?_) na) na rfl
  obtain ⟨l, ks, rfl, hq, hk, h4, q1⟩ := q1
  cases r1
  obtain ⟨its, r, pl, hz⟩ := I1.tuple hq
  refine call_setM ks (I1.ok.hd hc) pl (by simpa using ref_vals r) (fun u hu2 => inv_mT I1 (hk u hu2)) h4 (by omega) fun h' tk L es ep t R U keep => ?_
  refine PyProof.Rows.args_nil ?_
  obtain ⟨o, e1, e2, e3⟩ := R.ob
  have sz : es.size = L.length := by rw [← Array.length_toList, R.row, List.length_map]
  have I2 : Inv X pins σ H1 { s1 with heap := h', toks := tk } := I1.kept fun b o e => keep b o e
  have same : L.length = (dd (ks.map fun u => u.2)).length := by
    have pm : (L.map fun u => u.2).Perm (dd (ks.map fun u => u.2)) := by
      refine (List.perm_ext_iff_of_nodup R.nd (dd_nd _)).mpr fun k => ?_
      rw [dd_mem, List.mem_map, List.mem_map]
      constructor
      · rintro ⟨u, hu2, rfl⟩
        exact ⟨u, U.sub u hu2, rfl⟩
      · rintro ⟨u, hu2, rfl⟩
        obtain ⟨i, hi, rfl⟩ := List.getElem_of_mem hu2
        obtain ⟨v, hv, e⟩ := U.has i _ hi (List.getElem?_eq_getElem hi)
        exact ⟨v, hv, e⟩
    have := pm.length_eq
    rw [List.length_map] at this
    exact this
  have fits : t.fits es.size = true := Few4.fits (s := { s1 with heap := h', toks := tk }) R
  have bound : es.size < scanBound := by
    have := R.few
    unfold scanBound
    omega
  refine call_len_set e1 e2 e3 fits (by have := R.few; first | exact bound | (rw [sz]; omega) | omega) ⟨.int (es.size : Nat), H1, I2.tok _, ⟨_, rfl⟩, ?_⟩
  rw [sz, same]
  exact q1
theorem keyD_rp {d : D} {k : Key} {v : V} (h : keyD d = some k) (r : Rp K g H d v) : v = kV k := by
  cases d with
  | int i =>
    cases h
    exact r.int_inv
  | str l =>
    cases h
    exact r.str_inv.1
  | _ => cases h
theorem rowD_rp : ∀ {ds : List D} {ks : List Key} {vs : List V}, rowD ds = some ks → RpL K g H ds vs → vs = ks.map kV
  | [], ks, vs, h, r => by
    cases h
    exact r
  | d :: ds, ks, vs, h, r => by
    obtain ⟨v, us, rfl, h1, h2⟩ := r
    have h : (match keyD d, rowD ds with | some k, some r => some (k :: r) | _, _ => none) = some ks := h
    cases e1 : keyD d with
    | none => rw [e1] at h; cases h
    | some k =>
      cases e2 : rowD ds with
      | none => rw [e1, e2] at h; cases h
      | some r =>
        rw [e1, e2] at h
        cases h
        rw [keyD_rp e1 h1, rowD_rp e2 h2] <;> rfl
theorem rowsD_rp : ∀ {ds : List D} {L : List (List Key)} {vs : List V}, rowsD ds = some L → RpL K g H ds vs → ∃ ks : List (Addr × List Key), vs = ks.map (fun u => V.ref u.1) ∧ (ks.map fun u => u.2) = L ∧ ∀ u ∈ ks, SqT K H u.1 (u.2.map kV)
  | [], L, vs, h, r => by
    cases h
    exact ⟨[], r, rfl, fun _ h => absurd h (by simp)⟩
  | d :: ds, L, vs, h, r => by
    obtain ⟨v, us, rfl, h1, h2⟩ := r
    have h : (match tupD d, rowsD ds with | some k, some r => some (k :: r) | _, _ => none) = some L := h
    cases e1 : tupD d with
    | none => rw [e1] at h; cases h
    | some k =>
      cases e2 : rowsD ds with
      | none => rw [e1, e2] at h; cases h
      | some M =>
        rw [e1, e2] at h
        cases h
        obtain ⟨ks, e3, e4, e5⟩ := rowsD_rp e2 h2
        cases d with
        | tup es =>
          have e1 : rowD es = some k := e1
          obtain ⟨a, ws, rfl, q, rl, z⟩ := h1.tup_inv
          have e6 := rowD_rp e1 rl
          subst e6
          refine ⟨(a, k) :: ks, by rw [e3] <;> rfl, by rw [← e4] <;> rfl, fun u hu => ?_⟩
          rcases List.mem_cons.mp hu with rfl | hu
          · exact q
          · exact e5 u hu
        | _ => cases e1
theorem td_lenSetM (ha : TD K E ta da) : TD K E (tLenSetM K ta) (dUn fLenSetM da) := fun g H Ω ρ σ Q S O h =>
  ha g H Ω ρ σ _ S O (Pst.bind h fun x Ω1 g1 H1 v f1 O1 r1 h1 => by
    have h2 := Pst.pure O1 h1
    cases x with
    | tup ds =>
      obtain ⟨a, vs, rfl, q, rl, z⟩ := r1.tup_inv
      have h2 : PstX K g1 H1 (Rp K) Q (match rowsD ds with | some L => if L.length ≤ 4 then some (.int ((dd L).length : Nat)) else none | none => none) := h2
      cases e : rowsD ds with
      | none => rw [e] at h2; exact h2.elim
      | some L =>
        rw [e] at h2
        have h4 : PstX K g1 H1 (Rp K) Q (if L.length ≤ 4 then some (.int ((dd L).length : Nat)) else none) := h2
        clear h2
        by_cases c : L.length ≤ 4
        · rw [if_pos c] at h4
          obtain ⟨ks, rfl, e4, e5⟩ := rowsD_rp e rl
          subst e4
          rw [List.length_map] at c
          exact ⟨a, ks, rfl, q, e5, c, h4 g1 H1 _ Ext.refl Rp.int⟩
        · rw [if_neg c] at h4
          exact h4.elim
    | _ => exact h2.elim)
theorem pd_lenSetM {a : Expr} {p p2 q pos : Pos} (hc : X.calm = true) (hu : X.A.units + 65 < cLine) (hg : Gl X "len") (hm : X.mg "len" = none) (hg2 : Gl X "set") (hm2 : X.mg "set" = none) (ha : PD X K E a ta da)
    (na : starEach [a] X.env = (false, eval a X.env) :: starEach [] X.env := by rfl) : PD X K E (.Call (.Name "len" p) [.Call (.Name "set" p2) [a] [] q] [] pos) (tLenSetM X.K ta) (dUn fLenSetM da) := by
  obtain ⟨k, pa, qa⟩ := ha
  subst k
  exact ⟨rfl, pe_lenSetM hc hu hg hm hg2 hm2 pa na, td_lenSetM qa⟩
end
end Fm
/-! Fm, part 18: the functions on data, as rewriting rules. -/
namespace Fm
open PySem PySem.Spec L2
theorem fMul_int {i j : Int} (h : (-(2 ^ 64) < i ∧ i < 2 ^ 64) ∨ (-(2 ^ 64) < j ∧ j < 2 ^ 64)) : fMul (.int i) (.int j) = some (.int (i * j)) := by
  have e : fMul.CMulB i j = true := by
    unfold fMul.CMulB
    simp only [Bool.or_eq_true, Bool.and_eq_true, decide_eq_true_eq]
    exact h
  show (if fMul.CMulB i j = true then some (D.int (i * j)) else none) = _
  rw [if_pos e]
theorem fMod_int {i j : Int} (h : 0 < j) : fMod (.int i) (.int j) = some (.int (i % j)) := by
  show (if 0 < j then some (D.int (i % j)) else none) = _
  rw [if_pos h]
theorem fPlus_str {l m : List Nat} (h : l.length + m.length ≤ lim) : fPlus (.str l) (.str m) = some (.str (l ++ m)) := by
  show (if l.length + m.length ≤ lim then some (D.str (l ++ m)) else none) = _
  rw [if_pos h]
theorem fPlus_tup {l m : List D} (h : l.length + m.length ≤ lim) : fPlus (.tup l) (.tup m) = some (.tup (l ++ m)) := by
  show (if l.length + m.length ≤ lim then some (D.tup (l ++ m)) else none) = _
  rw [if_pos h]
theorem fPlus_lst {l m : List D} (h : l.length + m.length ≤ lim) : fPlus (.lst l) (.lst m) = some (.lst (l ++ m)) := by
  show (if l.length + m.length ≤ lim then some (D.lst (l ++ m)) else none) = _
  rw [if_pos h]
theorem fPlus_int {i j : Int} : fPlus (.int i) (.int j) = some (.int (i + j)) := rfl
/-! items -/
theorem atI_nat {α : Type} {xs : List α} {i : Nat} {x : α} (h : xs[i]? = some x) : atI xs (i : Int) = some x := by
  have hi := (List.getElem?_eq_some_iff.mp h).1
  unfold atI ixN
  rw [if_pos (by omega), if_pos (by omega)]
  simpa using h
theorem atI_last {α : Type} {xs : List α} {x : α} : atI (xs ++ [x]) (-1) = some x := by
  unfold atI ixN
  rw [if_neg (by omega), if_pos (by simp; omega)]
  have e : (-1 + ((xs ++ [x]).length : Int)).toNat = xs.length := by simp; omega
  show (some ((-1 + ((xs ++ [x]).length : Int)).toNat)).bind _ = _
  rw [e]
  simp
theorem ixN_last {n : Nat} : ixN (n + 1) (-1) = some n := by
  unfold ixN
  rw [if_neg (by omega), if_pos (by omega)]
  congr 1
  omega
theorem fIx_tup {ds : List D} {i : Nat} {d : D} (h : ds[i]? = some d) : fIx (.tup ds) (.int (i : Nat)) = some d := atI_nat h
theorem fIx_lst {ds : List D} {i : Nat} {d : D} (h : ds[i]? = some d) : fIx (.lst ds) (.int (i : Nat)) = some d := atI_nat h
theorem fIx_str {l : List Nat} {i : Nat} {c : Nat} (h : l[i]? = some c) : fIx (.str l) (.int (i : Nat)) = some (.str [c]) := by
  show (atI l (i : Nat)).map (fun c => D.str [c]) = _
  rw [atI_nat h]
  rfl
/-! equality -/
theorem deq_strs (l m : List Nat) : deq (.str l) (.str m) = decide (l = m) := by
  show PyData.eqv (toP (.str l)) (toP (.str m)) = _
  simp only [toP, PyData.eqv]
  by_cases h : l = m
  · subst h; simp
  · rw [decide_eq_false h]
    refine beq_eq_false_iff_ne.mpr fun e => h ?_
    have := congrArg (fun s : Str => s.cps.toList) e
    simpa using this
theorem fEq_str (l m : List Nat) : fEq (.str l) (.str m) = some (.bl (decide (l = m))) := by
  show (if (sh 8 (.str l) && sh 8 (.str m)) = true then some (D.bl (deq (.str l) (.str m))) else none) = _
  rw [if_pos (by rfl), deq_strs]
theorem fNe_str (l m : List Nat) : fNe (.str l) (.str m) = some (.bl (!decide (l = m))) := by
  show (if (sh 8 (.str l) && sh 8 (.str m)) = true then some (D.bl (!deq (.str l) (.str m))) else none) = _
  rw [if_pos (by rfl), deq_strs]
theorem deq_ints (i j : Int) : deq (.int i) (.int j) = decide (i = j) := by
  show PyData.eqv (toP (.int i)) (toP (.int j)) = _
  simp only [toP, PyData.eqv]
  first | rfl | (by_cases h : i = j <;> simp [h])
theorem fEq_int (i j : Int) : fEq (.int i) (.int j) = some (.bl (decide (i = j))) := by
  show (if (sh 8 (.int i) && sh 8 (.int j)) = true then some (D.bl (deq (.int i) (.int j))) else none) = _
  rw [if_pos (by rfl), deq_ints]
theorem fNe_int (i j : Int) : fNe (.int i) (.int j) = some (.bl (!decide (i = j))) := by
  show (if (sh 8 (.int i) && sh 8 (.int j)) = true then some (D.bl (!deq (.int i) (.int j))) else none) = _
  rw [if_pos (by rfl), deq_ints]
/-! ### loops -/
theorem lcN_filter {dg : DG} {dt : DT} {de : DE} {ρ : Env1} {Ω : Om} (P : D → Bool) (f : D → D) : ∀ (xs acc : List D), (∀ x ∈ xs, ∃ ρ1, dg x ρ = some ρ1 ∧ dt ρ1 Ω = .ok (P x) Ω ∧ (P x = true → de ρ1 Ω = .ok (f x) Ω)) →
    lcN dg dt de ρ xs acc Ω = .ok (acc ++ (xs.filter P).map f) Ω
  | [], acc, _ => by simp [lcN]
  | x :: xs, acc, h => by
    obtain ⟨ρ1, h1, h2, h3⟩ := h x List.mem_cons_self
    have ih := fun acc => lcN_filter P f xs acc fun y hy => h y (List.mem_cons_of_mem _ hy)
    unfold lcN
    rw [h1]
    show (dt ρ1 Ω).bind _ = _
    rw [h2]
    show (if P x = true then (de ρ1 Ω).bind fun y Ω2 => lcN dg dt de ρ xs (acc ++ [y]) Ω2 else lcN dg dt de ρ xs acc Ω) = _
    by_cases c : P x = true
    · rw [if_pos c, h3 c]
      show lcN dg dt de ρ xs (acc ++ [f x]) Ω = _
      rw [ih, List.filter_cons_of_pos c, List.map_cons, List.append_assoc] <;> rfl
    · rw [if_neg c, ih, List.filter_cons_of_neg c]
theorem dLc_filter {di : DI} {dg : DG} {dt : DT} {de : DE} {vs : List Nat} {ρ : Env1} {Ω : Om} {xs : List D} (P : D → Bool) (f : D → D) (hi : di ρ Ω = .ok xs Ω) (hl : xs.length ≤ lim) (h : ∀ x ∈ xs, ∃ ρ1, dg x (wipeD ρ vs) = some ρ1 ∧ dt ρ1 Ω = .ok (P x) Ω ∧ (P x = true → de ρ1 Ω = .ok (f x) Ω)) :
    dLc di dg dt de vs ρ Ω = .ok (.lst ((xs.filter P).map f)) Ω := by
  unfold dLc
  rw [hi]
  show (if xs.length ≤ lim then _ else _) = _
  rw [if_pos hl, lcN_filter P f xs [] h] <;> rfl
theorem lcN_ex {dg : DG} {dt : DT} {de : DE} {ρ : Env1} {Ω : Om} (Q : D → Prop) : ∀ (xs acc : List D), (∀ x ∈ xs, ∃ ρ1 y, dg x ρ = some ρ1 ∧ dt ρ1 Ω = .ok true Ω ∧ de ρ1 Ω = .ok y Ω ∧ Q y) →
    ∃ ys, lcN dg dt de ρ xs acc Ω = .ok (acc ++ ys) Ω ∧ ys.length = xs.length ∧ ∀ y ∈ ys, Q y
  | [], acc, _ => ⟨[], by simp [lcN], rfl, fun y hy => absurd hy (by simp)⟩
  | x :: xs, acc, h => by
    obtain ⟨ρ1, y, h1, h2, h3, h4⟩ := h x List.mem_cons_self
    obtain ⟨ys, e1, e2, e3⟩ := lcN_ex Q xs (acc ++ [y]) fun y hy => h y (List.mem_cons_of_mem _ hy)
    refine ⟨y :: ys, ?_, by simp [e2], fun z hz => ?_⟩
    · unfold lcN
      rw [h1]
      show (dt ρ1 Ω).bind _ = _
      rw [h2]
      show (de ρ1 Ω).bind (fun y Ω2 => lcN dg dt de ρ xs (acc ++ [y]) Ω2) = _
      rw [h3]
      show lcN dg dt de ρ xs (acc ++ [y]) Ω = _
      rw [e1, List.append_assoc] <;> rfl
    · rcases List.mem_cons.mp hz with rfl | hz
      · exact h4
      · exact e3 z hz
theorem dLc_ex {di : DI} {dg : DG} {dt : DT} {de : DE} {vs : List Nat} {ρ : Env1} {Ω : Om} {xs : List D} (Q : D → Prop) (hi : di ρ Ω = .ok xs Ω) (hl : xs.length ≤ lim) (h : ∀ x ∈ xs, ∃ ρ1 y, dg x (wipeD ρ vs) = some ρ1 ∧ dt ρ1 Ω = .ok true Ω ∧ de ρ1 Ω = .ok y Ω ∧ Q y) :
    ∃ ys, dLc di dg dt de vs ρ Ω = .ok (.lst ys) Ω ∧ ys.length = xs.length ∧ ∀ y ∈ ys, Q y := by
  obtain ⟨ys, e1, e2, e3⟩ := lcN_ex (dg := dg) (dt := dt) (de := de) (ρ := wipeD ρ vs) (Ω := Ω) Q xs [] h
  refine ⟨ys, ?_, e2, e3⟩
  unfold dLc
  rw [hi]
  show (if xs.length ≤ lim then _ else _) = _
  rw [if_pos hl, e1] <;> rfl
theorem forN_inv {dg : DG} {db : DS} {Ω : Om} (I : Nat → Env1 → Prop) : ∀ (xs : List D) (k : Nat) (ρ : Env1), I k ρ → (∀ i x ρ, xs[i]? = some x → I (k + i) ρ → ∃ ρ1 ρ2, dg x ρ = some ρ1 ∧ db ρ1 Ω = .nx ρ2 Ω ∧ I (k + i + 1) ρ2) →
    ∃ ρ', forN dg db xs ρ Ω = .nx ρ' Ω ∧ I (k + xs.length) ρ'
  | [], k, ρ, h0, _ => ⟨ρ, rfl, h0⟩
  | x :: xs, k, ρ, h0, hs => by
    obtain ⟨ρ1, ρ2, h1, h2, h3⟩ := hs 0 x ρ rfl h0
    obtain ⟨ρ', e1, e2⟩ := forN_inv I xs (k + 1) ρ2 h3 fun i y ρ hy hi => by
      have := hs (i + 1) y ρ (by simpa using hy) (by rw [show k + (i + 1) = k + 1 + i by omega]; exact hi)
      rw [show k + (i + 1) + 1 = k + 1 + i + 1 by omega] at this
      exact this
    refine ⟨ρ', ?_, by rw [List.length_cons, show k + (xs.length + 1) = k + 1 + xs.length by omega]; exact e2⟩
    unfold forN
    rw [h1]
    show (db ρ1 Ω).then (forN dg db xs) = _
    rw [h2]
    exact e1
/-- for, the items all told; Ω stays -/
theorem dFor_inv {di : DI} {dg : DG} {db : DS} {ρ : Env1} {Ω : Om} {xs : List D} (I : Nat → Env1 → Prop) (hi : di ρ Ω = .ok xs Ω) (h0 : I 0 ρ) (hs : ∀ i x ρ, xs[i]? = some x → I i ρ → ∃ ρ1 ρ2, dg x ρ = some ρ1 ∧ db ρ1 Ω = .nx ρ2 Ω ∧ I (i + 1) ρ2) :
    ∃ ρ', dFor di dg db ρ Ω = .nx ρ' Ω ∧ I xs.length ρ' := by
  obtain ⟨ρ', e1, e2⟩ := forN_inv (dg := dg) (db := db) (Ω := Ω) I xs 0 ρ h0 fun i x ρ hx h => by
    have := hs i x ρ hx (by rw [Nat.zero_add] at h; exact h)
    rw [Nat.zero_add]
    exact this
  refine ⟨ρ', ?_, by rw [Nat.zero_add] at e2; exact e2⟩
  unfold dFor
  rw [hi]
  exact e1
theorem whileN_inv {dt : DT} {db : DS} {Ω : Om} (I J : Env1 → Prop) (m : Env1 → Nat) (hs : ∀ ρ, I ρ → (dt ρ Ω = .ok false Ω ∧ J ρ) ∨ (dt ρ Ω = .ok true Ω ∧ ∃ ρ', db ρ Ω = .nx ρ' Ω ∧ I ρ' ∧ m ρ' < m ρ)) : ∀ (n : Nat) (ρ : Env1), I ρ → m ρ < n → ∃ ρ', whileN dt db n ρ Ω = .nx ρ' Ω ∧ J ρ'
  | 0, _, _, h => absurd h (Nat.not_lt_zero _)
  | n + 1, ρ, hi, hm => by
    unfold whileN
    rcases hs ρ hi with ⟨h1, h2⟩ | ⟨h1, ρ', h2, h3, h4⟩
    · rw [h1]
      exact ⟨ρ, rfl, h2⟩
    · rw [h1]
      show ∃ ρ', (db ρ Ω).then (whileN dt db n) = _ ∧ _
      rw [h2]
      exact whileN_inv I J m hs n ρ' h3 (by omega)
theorem dWhile_inv {dt : DT} {db : DS} {Ω : Om} {ρ : Env1} (I J : Env1 → Prop) (m : Env1 → Nat) (h0 : I ρ) (hm : m ρ < fuel) (hs : ∀ ρ, I ρ → (dt ρ Ω = .ok false Ω ∧ J ρ) ∨ (dt ρ Ω = .ok true Ω ∧ ∃ ρ', db ρ Ω = .nx ρ' Ω ∧ I ρ' ∧ m ρ' < m ρ)) :
    ∃ ρ', dWhile dt db ρ Ω = .nx ρ' Ω ∧ J ρ' := whileN_inv I J m hs fuel ρ h0 hm
theorem fuel_eq : fuel = 3000000 := rfl
theorem rangeL_len (lo n : Int) : (rangeL lo n).length = (n - lo).toNat := by simp [rangeL]
theorem rangeL_get {lo n : Int} {i : Nat} {d : D} (h : (rangeL lo n)[i]? = some d) : d = .int (lo + i) ∧ (i : Int) < n - lo := by
  unfold rangeL at h
  rw [List.getElem?_map] at h
  obtain ⟨k, h1, rfl⟩ := Option.map_eq_some_iff.mp h
  obtain ⟨h3, h4⟩ := List.getElem?_eq_some_iff.mp h1
  rw [List.getElem_range] at h4
  rw [List.length_range] at h3
  subst h4
  exact ⟨rfl, by omega⟩
theorem rangeL_mem {lo n : Int} {d : D} (h : d ∈ rangeL lo n) : ∃ i : Nat, d = .int (lo + i) ∧ (i : Int) < n - lo := by
  obtain ⟨i, hi⟩ := List.getElem?_of_mem h
  exact ⟨i, rangeL_get hi⟩
/-! ### steps -/
section
variable {ρ ρ1 : Env1} {Ω Ω1 Ω2 Ω3 : Om} {s t db : DS} {r : Fl} {de da dc : DE} {das : DA} {dt du : DT} {x y z v : D} {xs : List D} {f : D → D → Option D} {i n N : Nat} {b : Bool}
theorem seq_nx (h : s ρ Ω = .nx ρ1 Ω1) (k : t ρ1 Ω1 = r) : dSeq s t ρ Ω = r := by
  show (s ρ Ω).then t = r
  rw [h]
  exact k
theorem seq_rt (h : s ρ Ω = .rt x Ω1) : dSeq s t ρ Ω = .rt x Ω1 := by
  show (s ρ Ω).then t = _
  rw [h] <;> rfl
theorem seq_exc {e : Str} (h : s ρ Ω = .exc e Ω1) : dSeq s t ρ Ω = .exc e Ω1 := by
  show (s ρ Ω).then t = _
  rw [h] <;> rfl
theorem run_rt (hn : xs.length = n) (h : db (xs.map .val ++ List.replicate (N - n) .un) Ω = .rt x Ω1) : runF db N n xs Ω = .ok x Ω1 := by
  unfold runF
  rw [if_pos hn, h]
theorem run_nx (hn : xs.length = n) (h : db (xs.map .val ++ List.replicate (N - n) .un) Ω = .nx ρ1 Ω1) : runF db N n xs Ω = .ok .non Ω1 := by
  unfold runF
  rw [if_pos hn, h]
theorem run_exc {e : Str} (hn : xs.length = n) (h : db (xs.map .val ++ List.replicate (N - n) .un) Ω = .exc e Ω1) : runF db N n xs Ω = .exc e Ω1 := by
  unfold runF
  rw [if_pos hn, h]
theorem asg_ok {dg : DG} (h : de ρ Ω = .ok x Ω1) (hg : dg x ρ = some ρ1) : dAsg de dg ρ Ω = .nx ρ1 Ω1 := by
  unfold dAsg
  rw [h]
  show (match dg x ρ with | some ρ1 => Fl.nx ρ1 Ω1 | none => .bad) = _
  rw [hg]
theorem ret_ok (h : de ρ Ω = .ok x Ω1) : dRet de ρ Ω = .rt x Ω1 := by
  unfold dRet
  rw [h] <;> rfl
theorem drop_ok (h : de ρ Ω = .ok x Ω1) : dDrop de ρ Ω = .nx ρ Ω1 := by
  unfold dDrop
  rw [h] <;> rfl
theorem op_ok (h1 : da ρ Ω = .ok x Ω1) (h2 : dc ρ Ω1 = .ok y Ω2) (h3 : f x y = some z) : dOp f da dc ρ Ω = .ok z Ω2 := by
  unfold dOp
  rw [h1]
  show (dc ρ Ω1).bind (fun y Ω2 => lift (f x y) Ω2) = _
  rw [h2]
  show lift (f x y) Ω2 = _
  rw [h3] <;> rfl
theorem un_ok {f : D → Option D} (h1 : da ρ Ω = .ok x Ω1) (h3 : f x = some z) : dUn f da ρ Ω = .ok z Ω1 := by
  unfold dUn
  rw [h1]
  show lift (f x) Ω1 = _
  rw [h3] <;> rfl
theorem cb_ok {f : List D → Option D} (h1 : das ρ Ω = .ok xs Ω1) (h3 : f xs = some z) : dCB f das ρ Ω = .ok z Ω1 := by
  unfold dCB
  rw [h1]
  show lift (f xs) Ω1 = _
  rw [h3] <;> rfl
theorem call_ok {F : List D → Om → Res D} {r : Res D} (h1 : das ρ Ω = .ok xs Ω1) (h3 : F xs Ω1 = r) : dCall F das ρ Ω = r := by
  unfold dCall
  rw [h1]
  exact h3
theorem nil_ok : dNil ρ Ω = .ok [] Ω := rfl
theorem cons_ok (h1 : da ρ Ω = .ok x Ω1) (h2 : das ρ Ω1 = .ok xs Ω2) : dCons da das ρ Ω = .ok (x :: xs) Ω2 := by
  unfold dCons
  rw [h1]
  show (das ρ Ω1).bind (fun xs Ω2 => .ok (x :: xs) Ω2) = _
  rw [h2] <;> rfl
theorem tup_ok (h1 : das ρ Ω = .ok xs Ω1) (hl : xs.length ≤ lim := by (simp [lim])) : dTup das ρ Ω = .ok (.tup xs) Ω1 := by
  unfold dTup
  rw [h1]
  show (if xs.length ≤ lim then _ else _) = _
  rw [if_pos hl]
theorem lst_ok (h1 : das ρ Ω = .ok xs Ω1) (hl : xs.length ≤ lim := by (simp [lim])) : dLst das ρ Ω = .ok (.lst xs) Ω1 := by
  unfold dLst
  rw [h1]
  show (if xs.length ≤ lim then _ else _) = _
  rw [if_pos hl]
theorem test_ok (h : de ρ Ω = .ok (.bl b) Ω1) : dTest de ρ Ω = .ok b Ω1 := by
  unfold dTest
  rw [h] <;> rfl
theorem truth_ok (h : de ρ Ω = .ok x Ω1) (h2 : truth x = some b) : dTruth de ρ Ω = .ok b Ω1 := by
  unfold dTruth
  rw [h]
  show lift (truth x) Ω1 = _
  rw [h2] <;> rfl
theorem and_t (h : dt ρ Ω = .ok true Ω1) (k : du ρ Ω1 = .ok b Ω2) : dAndT dt du ρ Ω = .ok b Ω2 := by
  unfold dAndT
  rw [h]
  exact k
theorem and_f (h : dt ρ Ω = .ok false Ω1) : dAndT dt du ρ Ω = .ok false Ω1 := by
  unfold dAndT
  rw [h] <;> rfl
theorem or_t (h : dt ρ Ω = .ok true Ω1) : dOrT dt du ρ Ω = .ok true Ω1 := by
  unfold dOrT
  rw [h] <;> rfl
theorem or_f (h : dt ρ Ω = .ok false Ω1) (k : du ρ Ω1 = .ok b Ω2) : dOrT dt du ρ Ω = .ok b Ω2 := by
  unfold dOrT
  rw [h]
  exact k
theorem not_ok (h : dt ρ Ω = .ok b Ω1) : dNotT dt ρ Ω = .ok (!b) Ω1 := by
  unfold dNotT
  rw [h] <;> rfl
theorem ifS_ok (h : dt ρ Ω = .ok b Ω1) (k : (if b = true then s ρ Ω1 else t ρ Ω1) = r) : dIfS dt s t ρ Ω = r := by
  unfold dIfS
  rw [h]
  exact k
theorem ifS_t (h : dt ρ Ω = .ok true Ω1) (k : s ρ Ω1 = r) : dIfS dt s t ρ Ω = r := ifS_ok h (by rw [if_pos rfl]; exact k)
theorem ifS_f (h : dt ρ Ω = .ok false Ω1) (k : t ρ Ω1 = r) : dIfS dt s t ρ Ω = r := ifS_ok h (by rw [if_neg Bool.false_ne_true]; exact k)
theorem if_t {r : Res D} (h : dt ρ Ω = .ok true Ω1) (k : da ρ Ω1 = r) : dIf dt da dc ρ Ω = r := by
  unfold dIf
  rw [h]
  exact k
theorem if_f {r : Res D} (h : dt ρ Ω = .ok false Ω1) (k : dc ρ Ω1 = r) : dIf dt da dc ρ Ω = r := by
  unfold dIf
  rw [h]
  exact k
theorem andV_t {r : Res D} (h : da ρ Ω = .ok (.bl true) Ω1) (k : dc ρ Ω1 = r) : dAndV da dc ρ Ω = r := by
  unfold dAndV
  rw [h]
  exact k
theorem andV_f (h : da ρ Ω = .ok (.bl false) Ω1) : dAndV da dc ρ Ω = .ok (.bl false) Ω1 := by
  unfold dAndV
  rw [h] <;> rfl
theorem orV_f {r : Res D} (h : da ρ Ω = .ok (.bl false) Ω1) (k : dc ρ Ω1 = r) : dOrV da dc ρ Ω = r := by
  unfold dOrV
  rw [h]
  exact k
theorem orV_t (h : da ρ Ω = .ok (.bl true) Ω1) : dOrV da dc ρ Ω = .ok (.bl true) Ω1 := by
  unfold dOrV
  rw [h] <;> rfl
theorem notV_ok (h : da ρ Ω = .ok (.bl b) Ω1) : dNotV da ρ Ω = .ok (.bl (!b)) Ω1 := by
  unfold dNotV
  rw [h] <;> rfl
theorem new_ok (h : das ρ Ω = .ok xs Ω1) (hi : i < ρ.length) (hl : xs.length ≤ lim := by (simp [lim])) : dNew i das ρ Ω = .nx (ρ.set i (.own xs)) Ω1 := by
  unfold dNew
  rw [h]
  show (if i < ρ.length ∧ xs.length ≤ lim then _ else _) = _
  rw [if_pos ⟨hi, hl⟩]
theorem app_ok (hq : ρ[i]? = some (.own xs)) (h : de ρ Ω = .ok x Ω1) (hl : xs.length < lim) : dApp i de ρ Ω = .nx (ρ.set i (.own (xs ++ [x]))) Ω1 := by
  unfold dApp
  rw [hq]
  show (de ρ Ω).fl _ = _
  rw [h]
  show (if xs.length < lim then _ else _) = _
  rw [if_pos hl]
theorem ext_ok {ys : List D} (hq : ρ[i]? = some (.own xs)) (h : de ρ Ω = .ok (.lst ys) Ω1) (hl : xs.length + ys.length ≤ lim) : dExt i de ρ Ω = .nx (ρ.set i (.own (xs ++ ys))) Ω1 := by
  unfold dExt
  rw [hq]
  show (de ρ Ω).fl _ = _
  rw [h]
  show (if xs.length + ys.length ≤ lim then _ else _) = _
  rw [if_pos hl]
theorem setI_ok {j : Int} {m : Nat} (hq : ρ[i]? = some (.own xs)) (h : de ρ Ω = .ok x Ω1) (hj : da ρ Ω1 = .ok (.int j) Ω2) (hm : ixN xs.length j = some m) : dSetI i de da ρ Ω = .nx (ρ.set i (.own (xs.set m x))) Ω2 := by
  unfold dSetI
  rw [hq]
  show (de ρ Ω).fl _ = _
  rw [h]
  show (da ρ Ω1).fl _ = _
  rw [hj]
  show (match ixN xs.length j with | some m => Fl.nx (ρ.set i (.own (xs.set m x))) Ω2 | none => .bad) = _
  rw [hm]
theorem retOwn_ok (hq : ρ[i]? = some (.own xs)) : dRetOwn i ρ Ω = .rt (.lst xs) Ω := by
  unfold dRetOwn
  rw [hq]
theorem own_ok (hq : ρ[i]? = some (.own xs)) : dOwn i ρ Ω = .ok xs Ω := by
  unfold dOwn
  rw [hq]
theorem truQ_ok (hq : ρ[i]? = some (.own xs)) : dTruQ (dOwn i) ρ Ω = .ok (!xs.isEmpty) Ω := by
  unfold dTruQ
  rw [own_ok hq] <;> rfl
theorem ixQ_ok {j : Int} (hq : ρ[i]? = some (.own xs)) (hj : da ρ Ω = .ok (.int j) Ω1) (hx : atI xs j = some x) : dIxQ (dOwn i) da ρ Ω = .ok x Ω1 := by
  unfold dIxQ
  rw [own_ok hq]
  show (da ρ Ω).bind _ = _
  rw [hj]
  show lift (atI xs j) Ω1 = _
  rw [hx] <;> rfl
theorem tupQ_ok (hq : ρ[i]? = some (.own xs)) : dTupQ (dOwn i) ρ Ω = .ok (.tup xs) Ω := by
  unfold dTupQ
  rw [own_ok hq] <;> rfl
theorem sl_ok {dl dh : DO} {lo hi : Option Int} (h1 : da ρ Ω = .ok x Ω1) (h2 : dl ρ Ω1 = .ok lo Ω2) (h3 : dh ρ Ω2 = .ok hi Ω3) (h4 : fSl x lo hi = some y) : dSl da dl dh ρ Ω = .ok y Ω3 := by
  unfold dSl
  rw [h1]
  show (dl ρ Ω1).bind _ = _
  rw [h2]
  show (dh ρ Ω2).bind _ = _
  rw [h3]
  show lift (fSl x lo hi) Ω3 = _
  rw [h4] <;> rfl
theorem part_ok {j : Int} (h : da ρ Ω = .ok (.int j) Ω1) : dPart da ρ Ω = .ok (some j) Ω1 := by
  unfold dPart
  rw [h] <;> rfl
theorem noP_ok : dNoP ρ Ω = .ok none Ω := rfl
theorem chain_ok {f' : D → D → Option D} (h1 : da ρ Ω = .ok x Ω1) (h2 : dc ρ Ω1 = .ok y Ω2) (h3 : f x y = some (.bl true)) (h4 : de ρ Ω2 = .ok z Ω3) (h5 : f' y z = some v) : dChain f f' da dc de ρ Ω = .ok v Ω3 := by
  unfold dChain
  rw [h1]
  show (dc ρ Ω1).bind _ = _
  rw [h2]
  show (match f x y with | some (.bl true) => (de ρ Ω2).bind (fun z Ω3 => lift (f' y z) Ω3) | some (.bl false) => .ok (.bl false) Ω2 | _ => .bad) = _
  rw [h3]
  show (de ρ Ω2).bind _ = _
  rw [h4]
  show lift (f' y z) Ω3 = _
  rw [h5] <;> rfl
theorem chain_f {f' : D → D → Option D} (h1 : da ρ Ω = .ok x Ω1) (h2 : dc ρ Ω1 = .ok y Ω2) (h3 : f x y = some (.bl false)) : dChain f f' da dc de ρ Ω = .ok (.bl false) Ω2 := by
  unfold dChain
  rw [h1]
  show (dc ρ Ω1).bind _ = _
  rw [h2]
  show (match f x y with | some (.bl true) => (de ρ Ω2).bind (fun z Ω3 => lift (f' y z) Ω3) | some (.bl false) => .ok (.bl false) Ω2 | _ => .bad) = _
  rw [h3]
theorem nxE_ok (h : de ρ Ω = .ok x Ω1) : nxE de ρ Ω = .ok x Ω1 := by
  unfold nxE
  rw [h] <;> rfl
theorem nxT_ok (h : dt ρ Ω = .ok b Ω1) : nxT dt ρ Ω = .ok b Ω1 := by
  unfold nxT
  rw [h] <;> rfl
theorem m1_ok {l : List Nat} (h1 : da ρ Ω = .ok (.str l) Ω1) (h2 : dc ρ Ω1 = .ok y Ω2) (h3 : f (.str l) y = some z) : dM1 f da dc ρ Ω = .ok z Ω2 := by
  unfold dM1
  rw [h1]
  show (dc ρ Ω1).bind _ = _
  rw [h2]
  show lift (f (.str l) y) Ω2 = _
  rw [h3] <;> rfl
theorem seqU_ok (h1 : de ρ Ω = .ok x Ω1) (h2 : seqD x = some xs) : asSeq de ρ Ω = .ok xs Ω1 := by
  unfold asSeq
  rw [h1]
  cases x <;> first | (cases h2; rfl) | cases h2
theorem en_ok (h1 : das ρ Ω = .ok [x] Ω1) (h2 : seqD x = some xs) : asEn das ρ Ω = .ok (enumL xs) Ω1 := by
  unfold asEn
  rw [h1]
  show lift ((seqD x).map enumL) Ω1 = _
  rw [h2] <;> rfl
theorem r1_ok {k : Int} (h1 : das ρ Ω = .ok [.int k] Ω1) (hk : -(2 ^ 62) ≤ k ∧ k < 2 ^ 62) : asR1 das ρ Ω = .ok (rangeL 0 k) Ω1 := by
  unfold asR1
  rw [h1]
  show (if big62 k = true then _ else _) = _
  rw [if_pos]
  unfold big62
  rw [decide_eq_true hk.1, decide_eq_true hk.2] <;> rfl
theorem r2_ok {a k : Int} (h1 : das ρ Ω = .ok [.int a, .int k] Ω1) (ha : -(2 ^ 62) ≤ a ∧ a < 2 ^ 62) (hk : -(2 ^ 62) ≤ k ∧ k < 2 ^ 62) : asR2 das ρ Ω = .ok (rangeL a k) Ω1 := by
  unfold asR2
  rw [h1]
  show (if (big62 a && big62 k) = true then _ else _) = _
  rw [if_pos]
  unfold big62
  rw [decide_eq_true hk.1, decide_eq_true hk.2, decide_eq_true ha.1, decide_eq_true ha.2] <;> rfl
end
/-! ### rules -/
inductive Rul where
  | word (w m : List Nat) | long (n : Nat) | sign (c : Nat) | twice | blanks | great
  deriving DecidableEq
def kWord : List Nat := [119, 111, 114, 100]
def kLong : List Nat := [108, 111, 110, 103]
def kSign : List Nat := [115, 105, 103, 110]
def kTwice : List Nat := [116, 119, 105, 99, 101]
def kBlanks : List Nat := [98, 108, 97, 110, 107, 115]
def kGreat : List Nat := [103, 114, 101, 97, 116]
def encR : Rul → D
  | .word w m => .tup [.str kWord, .str w, .str m]
  | .long n => .tup [.str kLong, .int n]
  | .sign c => .tup [.str kSign, .str [c]]
  | .twice => .tup [.str kTwice]
  | .blanks => .tup [.str kBlanks]
  | .great => .tup [.str kGreat]
theorem encR_inj {a b : Rul} (h : encR a = encR b) : a = b := by
  cases a <;> cases b <;> simp [encR, kWord, kLong, kSign, kTwice, kBlanks, kGreat] at h <;> first | rfl | (simp [h]; done) | (obtain ⟨h1, h2⟩ := h; simp [h1, h2]; done) | (have := h; simp_all; done) | (have := h; simp_all; omega)
theorem encR_sh (a : Rul) : sh 7 (encR a) = true := by cases a <;> rfl
theorem deq_encR (a b : Rul) : deq (encR a) (encR b) = decide (a = b) := by
  by_cases h : a = b
  · subst h
    rw [decide_eq_true rfl]
    cases a <;> simp [encR, deq, toP, toPs, PyData.eqv, PyData.eqvAll]
  · rw [decide_eq_false h]
    cases a <;> cases b <;> simp [encR, deq, toP, toPs, PyData.eqv, PyData.eqvAll, kWord, kLong, kSign, kTwice, kBlanks, kGreat] at h ⊢ <;> first | done | (simpa using h) | omega
def azL : List Nat := [97, 98, 99, 100, 101, 102, 103, 104, 105, 106, 107, 108, 109, 110, 111, 112, 113, 114, 115, 116, 117, 118, 119, 120, 121, 122]
def AZL : List Nat := [65, 66, 67, 68, 69, 70, 71, 72, 73, 74, 75, 76, 77, 78, 79, 80, 81, 82, 83, 84, 85, 86, 87, 88, 89, 90]
def isSm (c : Nat) : Bool := decide (97 ≤ c) && decide (c ≤ 122)
def isL (c : Nat) : Bool := (decide (97 ≤ c) && decide (c ≤ 122)) || (decide (65 ≤ c) && decide (c ≤ 90))
/-- a rule as the document has it -/
def okR : Rul → Bool
  | .word w m => decide (1 ≤ w.length) && decide (w.length ≤ 6) && w.all isSm && decide (m.length ≤ 6) && m.all isSm
  | .long n => decide (1 ≤ n) && decide (n ≤ 9)
  | .sign c => decide (33 ≤ c) && decide (c ≤ 126) && !isL c
  | _ => true
theorem mem_az {c : Nat} : c ∈ azL ↔ isSm c = true := by
  unfold isSm azL
  simp only [List.mem_cons, List.not_mem_nil, or_false, Bool.and_eq_true, decide_eq_true_eq]
  omega
theorem mem_let {c : Nat} : c ∈ azL ++ AZL ↔ isL c = true := by
  unfold isL azL AZL
  simp only [List.cons_append, List.nil_append, List.mem_cons, List.not_mem_nil, or_false, Bool.and_eq_true, Bool.or_eq_true, decide_eq_true_eq]
  omega
theorem lo1_let {c : Nat} (h : isL c = true) : isSm (PyProof.Rows.lo1 c) = true := by
  unfold isL at h
  unfold isSm PyProof.Rows.lo1
  simp only [Bool.and_eq_true, Bool.or_eq_true, decide_eq_true_eq] at h ⊢
  split <;> omega
/-! ### stretches -/
def go (p : Nat → Bool) : List Nat → Nat → Option Nat → List (Nat × Nat)
  | [], _, none => []
  | [], i, some b => [(b, i)]
  | c :: r, i, none => if p c = true then go p r (i + 1) (some i) else go p r (i + 1) none
  | c :: r, i, some b => if p c = true then go p r (i + 1) (some b) else (b, i) :: go p r (i + 1) none
def runs (p : Nat → Bool) (l : List Nat) : List (Nat × Nat) := go p l 0 none
def encP (q : Nat × Nat) : D := .tup [.int (q.1 : Int), .int (q.2 : Int)]
theorem drop_at {l : List Nat} {i : Nat} {c : Nat} (h : l[i]? = some c) : l.drop i = c :: l.drop (i + 1) := by
  obtain ⟨hi, e⟩ := List.getElem?_eq_some_iff.mp h
  rw [List.drop_eq_getElem_cons hi, e]
/-- the runs: places in the text, begin below end, one behind the other with a gap, each sign of a run p -/
theorem go_bd (p : Nat → Bool) : ∀ (l : List Nat) (i : Nat) (o : Option Nat), (∀ b, o = some b → b < i) → (∀ q ∈ go p l i o, (match o with | some b => b | none => i) ≤ q.1 ∧ q.1 < q.2 ∧ q.2 ≤ i + l.length) ∧ (go p l i o).Pairwise (fun a b => a.2 < b.1)
  | [], i, none, _ => ⟨fun q hq => absurd hq (by simp [go]), List.Pairwise.nil⟩
  | [], i, some b, h => ⟨fun q hq => by
      have e : q = (b, i) := by simpa [go] using hq
      subst e
      exact ⟨Nat.le_refl _, h b rfl, by simp⟩, by simp [go]⟩
  | c :: r, i, none, h => by
    unfold go
    split
    · obtain ⟨h1, h2⟩ := go_bd p r (i + 1) (some i) fun b e => by cases e; omega
      refine ⟨fun q hq => ?_, h2⟩
      obtain ⟨a1, a2, a3⟩ := h1 q hq
      simp only [List.length_cons] at a3 ⊢
      exact ⟨a1, a2, by omega⟩
    · obtain ⟨h1, h2⟩ := go_bd p r (i + 1) none fun b e => by cases e
      refine ⟨fun q hq => ?_, h2⟩
      obtain ⟨a1, a2, a3⟩ := h1 q hq
      simp only [List.length_cons] at a1 a3 ⊢
      exact ⟨by omega, a2, by omega⟩
  | c :: r, i, some b, h => by
    unfold go
    have hb := h b rfl
    split
    · obtain ⟨h1, h2⟩ := go_bd p r (i + 1) (some b) fun b' e => by cases e; omega
      refine ⟨fun q hq => ?_, h2⟩
      obtain ⟨a1, a2, a3⟩ := h1 q hq
      simp only [List.length_cons] at a3 ⊢
      exact ⟨a1, a2, by omega⟩
    · obtain ⟨h1, h2⟩ := go_bd p r (i + 1) none fun b e => by cases e
      refine ⟨fun q hq => ?_, List.pairwise_cons.mpr ⟨fun q hq => ?_, h2⟩⟩
      · rcases List.mem_cons.mp hq with rfl | hq
        · exact ⟨Nat.le_refl _, hb, by simp⟩
        · obtain ⟨a1, a2, a3⟩ := h1 q hq
          simp only [List.length_cons] at a1 a3 ⊢
          exact ⟨by omega, a2, by omega⟩
      · obtain ⟨a1, a2, a3⟩ := h1 q hq
        simp only at a1 ⊢
        omega
theorem runs_bd {p : Nat → Bool} {l : List Nat} {q : Nat × Nat} (h : q ∈ runs p l) : q.1 < q.2 ∧ q.2 ≤ l.length := by
  obtain ⟨h1, _⟩ := go_bd p l 0 none fun b e => by cases e
  obtain ⟨_, a2, a3⟩ := h1 q h
  exact ⟨a2, by omega⟩
theorem runs_pw (p : Nat → Bool) (l : List Nat) : (runs p l).Pairwise (fun a b => a.2 < b.1) := (go_bd p l 0 none fun b e => by cases e).2
/-- no more runs than signs -/
theorem go_len (p : Nat → Bool) : ∀ (l : List Nat) (i : Nat) (o : Option Nat), (go p l i o).length ≤ l.length + (match o with | some _ => 1 | none => 0)
  | [], i, none => by simp [go]
  | [], i, some b => by simp [go]
  | c :: r, i, none => by
    unfold go
    split
    · have := go_len p r (i + 1) (some i)
      simp only [List.length_cons] at this ⊢
      omega
    · have := go_len p r (i + 1) none
      simp only [List.length_cons] at this ⊢
      omega
  | c :: r, i, some b => by
    unfold go
    split
    · have := go_len p r (i + 1) (some b)
      simp only [List.length_cons] at this ⊢
      omega
    · have := go_len p r (i + 1) none
      simp only [List.length_cons] at this ⊢
      omega
theorem runs_len (p : Nat → Bool) (l : List Nat) : (runs p l).length ≤ l.length := go_len p l 0 none
theorem fIn_chr (c : Nat) (m : List Nat) : fIn (.str [c]) (.str m) = some (.bl (decide (c ∈ m))) := rfl
theorem fNotIn_chr (c : Nat) (m : List Nat) : fNotIn (.str [c]) (.str m) = some (.bl (!decide (c ∈ m))) := rfl
theorem fLt_nat (i j : Nat) : fLt (.int (i : Int)) (.int (j : Int)) = some (.bl (decide (i < j))) := by
  show some (D.bl (decide ((i : Int) < (j : Int)))) = _
  congr 2
  exact decide_eq_decide.mpr (by omega)
theorem fLe_nat (i j : Nat) : fLe (.int (i : Int)) (.int (j : Int)) = some (.bl (decide (i ≤ j))) := by
  show some (D.bl (decide ((i : Int) ≤ (j : Int)))) = _
  congr 2
  exact decide_eq_decide.mpr (by omega)
theorem fGt_nat (i j : Nat) : fGt (.int (i : Int)) (.int (j : Int)) = some (.bl (decide (j < i))) := fLt_nat j i
theorem fGe_nat (i j : Nat) : fGe (.int (i : Int)) (.int (j : Int)) = some (.bl (decide (j ≤ i))) := fLe_nat j i
theorem fPlus_nat (i j : Nat) : fPlus (.int (i : Int)) (.int (j : Int)) = some (.int ((i + j : Nat) : Int)) := by
  show some (D.int ((i : Int) + (j : Int))) = _
  congr 2
theorem fEq_nat (i j : Nat) : fEq (.int (i : Int)) (.int (j : Int)) = some (.bl (decide (i = j))) := by
  rw [fEq_int]
  congr 2
  exact decide_eq_decide.mpr (by omega)
end Fm
namespace FmW
open PySem PySem.Spec L2 Fm
open PyProof.Rows hiding St
def sAz : List Nat := [97, 98, 99, 100, 101, 102, 103, 104, 105, 106, 107, 108, 109, 110, 111, 112, 113, 114, 115, 116, 117, 118, 119, 120, 121, 122]
def sAZ : List Nat := [65, 66, 67, 68, 69, 70, 71, 72, 73, 74, 75, 76, 77, 78, 79, 80, 81, 82, 83, 84, 85, 86, 87, 88, 89, 90]
def sLet : List Nat := [97, 98, 99, 100, 101, 102, 103, 104, 105, 106, 107, 108, 109, 110, 111, 112, 113, 114, 115, 116, 117, 118, 119, 120, 121, 122, 65, 66, 67, 68, 69, 70, 71, 72, 73, 74, 75, 76, 77, 78, 79, 80, 81, 82, 83, 84, 85, 86, 87, 88, 89, 90]
def sLetB : List Nat := [32, 97, 98, 99, 100, 101, 102, 103, 104, 105, 106, 107, 108, 109, 110, 111, 112, 113, 114, 115, 116, 117, 118, 119, 120, 121, 122, 65, 66, 67, 68, 69, 70, 71, 72, 73, 74, 75, 76, 77, 78, 79, 80, 81, 82, 83, 84, 85, 86, 87, 88, 89, 90]
def sAll : List Nat := [32, 33, 34, 35, 36, 38, 39, 40, 41, 42, 43, 44, 45, 46, 47, 48, 49, 50, 51, 52, 53, 54, 55, 56, 57, 58, 59, 60, 61, 62, 63, 64, 65, 66, 67, 68, 69, 70, 71, 72, 73, 74, 75, 76, 77, 78, 79, 80, 81, 82, 83, 84, 85, 86, 87, 88, 89, 90, 91, 92, 93, 94, 95, 96, 97, 98, 99, 100, 101, 102, 103, 104, 105, 106, 107, 108, 109, 110, 111, 112, 113, 114, 115, 116, 117, 118, 119, 120, 121, 122, 123, 124, 125, 126]
def top (i : Nat) : Stmt := PySem.Challenge.pw_faultmarks_k01_rules.main.body.getD i (.Pass ⟨0, 0, 0, 0⟩)
section
variable {P : Program} {w : World} {K : PySem.W.Frag} {mg : Str → Option Value} {base : Heap}

abbrev s_is_small_word : Stmt := top 3
theorem sc_is_small_word : FnScope ["thing", "least", "sign"] ["thing", "least"] (defScope s_is_small_word) := ⟨rfl, rfl, rfl, by decide +kernel, rfl, by decide +kernel, by decide +kernel⟩
def c_is_small_word_1 : DE := (dLc (asSeq (dVar 0)) (gN 2) (nxT dYes) (nxE (dOp fIn (dVar 2) (dC (.str sAz)))) [2])
def d_is_small_word : DS := (dRet (dAndV (dUn (fIsi .str) (dVar 0)) (dAndV (dChain fLe fLe (dVar 1) (dCB fLen (dCons (dVar 0) dNil)) (dC (.int 6))) (dCB fAll (dCons c_is_small_word_1 dNil)))))
def F_is_small_word : List D → Om → Res D := runF d_is_small_word 3 2
theorem ok_is_small_word {f : Addr} {fd : FuncData} (F : FunD K "is_small_word" "is_small_word" (defArgs s_is_small_word) (defBody s_is_small_word) (defScope s_is_small_word) [] [] f fd) (m_isinstance : mg "isinstance" = none) (m_str : mg "str" = none) (m_len : mg "len" = none) (m_all : mg "all" = none) {t_SMALL : Tok} (m_SMALL : mg "SMALL" = some (.str ⟨sAz.toArray⟩ t_SMALL)) : FnOk P w K mg base (L2N.CX P w) 1 f fd ["thing", "least"] (spD K 2 F_is_small_word) := by
  refine def_ok (N := ["thing", "least", "sign"]) F sc_is_small_word rfl fun cdv A outer s H E hr pf po tk => ?_
  have hu : (A.deeper (envOfC "is_small_word" (defScope s_is_small_word) s.heap.objs.size f cdv)).units + 65 < cLine := by have := hr.un; omega
  exact ⟨_, (pds_one (pd_ret (pd_and (pd_isi .str m_isinstance m_str (pd_var 0)) (pd_and (pd_chain c_le c_le (pd_var 1) (pd_blt b_len (by rfl) m_len PySem.boot_len (pda_cons (pd_var 0) pda_nil)) pd_int) (pd_one (pd_blt (b_all (by rfl)) (by rfl) m_all (by decide +kernel) (pda_cons (pd_lc (own := [("sign", 2)]) rfl sc_is_small_word.nd (pi_u (pd_var 0)) (blkOk_by (own := [("sign", 2)]) (N := ["thing", "least", "sign"]) (sc := defScope s_is_small_word) (by decide +kernel)) (fun _ _ _ _ _ => (pg_n 2 sc_is_small_word.nd)) (fun _ _ _ _ _ => pdts_nil) (fun _ _ _ _ _ => (pd_cmp (c_in hu) (pd_var 2) (pd_globS sAz (by rfl) m_SMALL) (by rfl))) (tgok_name (by decide))) pda_nil)))))))⟩
abbrev s_is_sign : Stmt := top 4
theorem sc_is_sign : FnScope ["thing"] ["thing"] (defScope s_is_sign) := ⟨rfl, rfl, rfl, by decide +kernel, rfl, by decide +kernel, by decide +kernel⟩
def d_is_sign : DS := (dRet (dAndV (dUn (fIsi .str) (dVar 0)) (dAndV (dOp fEq (dCB fLen (dCons (dVar 0) dNil)) (dC (.int 1))) (dAndV (dChain fLe fLe (dC (.str [33])) (dVar 0) (dC (.str [126]))) (dOp fNotIn (dVar 0) (dOp fPlus (dC (.str sAz)) (dC (.str sAZ))))))))
def F_is_sign : List D → Om → Res D := runF d_is_sign 1 1
theorem ok_is_sign {f : Addr} {fd : FuncData} (F : FunD K "is_sign" "is_sign" (defArgs s_is_sign) (defBody s_is_sign) (defScope s_is_sign) [] [] f fd) (m_isinstance : mg "isinstance" = none) (m_str : mg "str" = none) (m_len : mg "len" = none) {t_SMALL : Tok} (m_SMALL : mg "SMALL" = some (.str ⟨sAz.toArray⟩ t_SMALL)) {t_GREAT : Tok} (m_GREAT : mg "GREAT" = some (.str ⟨sAZ.toArray⟩ t_GREAT)) : FnOk P w K mg base (L2N.CX P w) 1 f fd ["thing"] (spD K 1 F_is_sign) := by
  refine def_ok (N := ["thing"]) F sc_is_sign rfl fun cdv A outer s H E hr pf po tk => ?_
  have hu : (A.deeper (envOfC "is_sign" (defScope s_is_sign) s.heap.objs.size f cdv)).units + 65 < cLine := by have := hr.un; omega
  exact ⟨_, (pds_one (pd_ret (pd_and (pd_isi .str m_isinstance m_str (pd_var 0)) (pd_and (pd_cmp (c_eq hu) (pd_blt b_len (by rfl) m_len PySem.boot_len (pda_cons (pd_var 0) pda_nil)) pd_int) (pd_and (pd_chain c_le c_le (pd_str [33]) (pd_var 0) (pd_str [126])) (pd_one (pd_cmp (c_notin hu) (pd_var 0) (pd_plus (pd_globS sAz (by rfl) m_SMALL) (pd_globS sAZ (by rfl) m_GREAT)) (by rfl))))))))⟩
abbrev s_is_rule : Stmt := top 5
theorem sc_is_rule : FnScope ["thing", "word", "rest"] ["thing"] (defScope s_is_rule) := ⟨rfl, rfl, rfl, by decide +kernel, rfl, by decide +kernel, by decide +kernel⟩
def d_is_rule : DS := (dSeq (dIfS (dOrT (dNotT (dTest (dUn (fIsi .tuple) (dVar 0)))) (dOrT (dNotT (dTruth (dVar 0))) (dNotT (dTest (dUn (fIsi .str) (dOp fIx (dVar 0) (dC (.int 0)))))))) (dRet (dC (.bl false))) dNext)
    (dSeq (dPar 1 2 (dCons (dOp fIx (dVar 0) (dC (.int 0))) (dCons (dSl (dVar 0) (dPart (dC (.int 1))) dNoP) dNil)))
    (dSeq (dIfS (dTest (dOp fIn (dVar 1) (dTup (dCons (dC (.str [116, 119, 105, 99, 101])) (dCons (dC (.str [98, 108, 97, 110, 107, 115])) (dCons (dC (.str [103, 114, 101, 97, 116])) dNil)))))) (dRet (dOp fEq (dCB fLen (dCons (dVar 2) dNil)) (dC (.int 0)))) dNext)
    (dSeq (dIfS (dTest (dOp fEq (dVar 1) (dC (.str [119, 111, 114, 100])))) (dRet (dAndV (dOp fEq (dCB fLen (dCons (dVar 2) dNil)) (dC (.int 2))) (dAndV (dCall F_is_small_word (dCons (dOp fIx (dVar 2) (dC (.int 0))) (dCons (dC (.int 1)) dNil))) (dCall F_is_small_word (dCons (dOp fIx (dVar 2) (dC (.int 1))) (dCons (dC (.int 0)) dNil)))))) dNext)
    (dSeq (dIfS (dTest (dOp fEq (dVar 1) (dC (.str [108, 111, 110, 103])))) (dRet (dAndV (dOp fEq (dCB fLen (dCons (dVar 2) dNil)) (dC (.int 1))) (dAndV (dUn (fIsi .int) (dOp fIx (dVar 2) (dC (.int 0)))) (dAndV (dNotV (dUn (fIsi .bool) (dOp fIx (dVar 2) (dC (.int 0))))) (dChain fLe fLe (dC (.int 1)) (dOp fIx (dVar 2) (dC (.int 0))) (dC (.int 9))))))) dNext)
    (dRet (dAndV (dOp fEq (dVar 1) (dC (.str [115, 105, 103, 110]))) (dAndV (dOp fEq (dCB fLen (dCons (dVar 2) dNil)) (dC (.int 1))) (dCall F_is_sign (dCons (dOp fIx (dVar 2) (dC (.int 0))) dNil))))))))))
def F_is_rule : List D → Om → Res D := runF d_is_rule 3 1
theorem ok_is_rule {f : Addr} {fd : FuncData} (F : FunD K "is_rule" "is_rule" (defArgs s_is_rule) (defBody s_is_rule) (defScope s_is_rule) [] [] f fd) (m_isinstance : mg "isinstance" = none) (m_tuple : mg "tuple" = none) (m_str : mg "str" = none) (m_len : mg "len" = none) (m_int : mg "int" = none) (m_bool : mg "bool" = none) (c_is_small_word : Cal P w K mg base 1 "is_small_word" 2 F_is_small_word) (c_is_sign : Cal P w K mg base 1 "is_sign" 1 F_is_sign) : FnOk P w K mg base (L2N.CX P w) 2 f fd ["thing"] (spD K 1 F_is_rule) := by
  refine def_ok (N := ["thing", "word", "rest"]) F sc_is_rule rfl fun cdv A outer s H E hr pf po tk => ?_
  have hu : (A.deeper (envOfC "is_rule" (defScope s_is_rule) s.heap.objs.size f cdv)).units + 65 < cLine := by have := hr.un; omega
  exact ⟨_, (pds_cons (pd_ifS (pdt_w (pdw_or (pdt_not (pdt_val (pd_isi .tuple m_isinstance m_tuple (pd_var 0)))) (pdw_or (pdt_not (pdt_truth (pd_var 0))) (pdw_or1 (pdt_not (pdt_val (pd_isi .str m_isinstance m_str (pd_ix (pd_var 0) pd_int)))))))) (pds_one (pd_ret pd_bl)) pds_nil)
    (pds_cons (pd_par 1 2 rfl sc_is_rule.nd (pda_cons (pd_ix (pd_var 0) pd_int) (pda_cons (pd_slice (pd_var 0) (pdo_some pd_int) pdo_none) pda_nil)))
    (pds_cons (pd_ifS (pdt_cmp (c_in hu) (pd_var 1) (pd_tup (pda_cons (pd_str [116, 119, 105, 99, 101]) (pda_cons (pd_str [98, 108, 97, 110, 107, 115]) (pda_cons (pd_str [103, 114, 101, 97, 116]) pda_nil)))) (by rfl)) (pds_one (pd_ret (pd_cmp (c_eq hu) (pd_blt b_len (by rfl) m_len PySem.boot_len (pda_cons (pd_var 2) pda_nil)) pd_int))) pds_nil)
    (pds_cons (pd_ifS (pdt_cmp (c_eq hu) (pd_var 1) (pd_str [119, 111, 114, 100])) (pds_one (pd_ret (pd_and (pd_cmp (c_eq hu) (pd_blt b_len (by rfl) m_len PySem.boot_len (pda_cons (pd_var 2) pda_nil)) pd_int) (pd_and (pd_call (c_is_small_word.fnd hr pf) (pda_cons (pd_ix (pd_var 2) pd_int) (pda_cons pd_int pda_nil)) (dCons_len (dCons_len dNil_len))) (pd_one (pd_call (c_is_small_word.fnd hr pf) (pda_cons (pd_ix (pd_var 2) pd_int) (pda_cons pd_int pda_nil)) (dCons_len (dCons_len dNil_len)))))))) pds_nil)
    (pds_cons (pd_ifS (pdt_cmp (c_eq hu) (pd_var 1) (pd_str [108, 111, 110, 103])) (pds_one (pd_ret (pd_and (pd_cmp (c_eq hu) (pd_blt b_len (by rfl) m_len PySem.boot_len (pda_cons (pd_var 2) pda_nil)) pd_int) (pd_and (pd_isi .int m_isinstance m_int (pd_ix (pd_var 2) pd_int)) (pd_and (pd_not (pd_isi .bool m_isinstance m_bool (pd_ix (pd_var 2) pd_int))) (pd_one (pd_chain c_le c_le pd_int (pd_ix (pd_var 2) pd_int) pd_int))))))) pds_nil)
    (pds_one (pd_ret (pd_and (pd_cmp (c_eq hu) (pd_var 1) (pd_str [115, 105, 103, 110])) (pd_and (pd_cmp (c_eq hu) (pd_blt b_len (by rfl) m_len PySem.boot_len (pda_cons (pd_var 2) pda_nil)) pd_int) (pd_one (pd_call (c_is_sign.fnd hr pf) (pda_cons (pd_ix (pd_var 2) pd_int) pda_nil) (dCons_len dNil_len))))))))))))⟩
abbrev s_are_rules : Stmt := top 6
theorem sc_are_rules : FnScope ["thing", "one"] ["thing"] (defScope s_are_rules) := ⟨rfl, rfl, rfl, by decide +kernel, rfl, by decide +kernel, by decide +kernel⟩
def c_are_rules_1 : DE := (dLc (asSeq (dVar 0)) (gN 1) (nxT dYes) (nxE (dCall F_is_rule (dCons (dVar 1) dNil))) [1])
def d_are_rules : DS := (dSeq (dIfS (dOrT (dNotT (dTest (dUn (fIsi .tuple) (dVar 0)))) (dOrT (dNotT (dTest (dChain fLe fLe (dC (.int 1)) (dCB fLen (dCons (dVar 0) dNil)) (dC (.int 4))))) (dNotT (dTest (dCB fAll (dCons c_are_rules_1 dNil)))))) (dRet (dC (.bl false))) dNext)
    (dRet (dOp fEq (dUn fLenSetM (dVar 0)) (dCB fLen (dCons (dVar 0) dNil)))))
def F_are_rules : List D → Om → Res D := runF d_are_rules 2 1
theorem ok_are_rules {f : Addr} {fd : FuncData} (F : FunD K "are_rules" "are_rules" (defArgs s_are_rules) (defBody s_are_rules) (defScope s_are_rules) [] [] f fd) (m_isinstance : mg "isinstance" = none) (m_tuple : mg "tuple" = none) (m_len : mg "len" = none) (m_all : mg "all" = none) (m_set : mg "set" = none) (c_is_rule : Cal P w K mg base 2 "is_rule" 1 F_is_rule) : FnOk P w K mg base (L2N.CX P w) 3 f fd ["thing"] (spD K 1 F_are_rules) := by
  refine def_ok (N := ["thing", "one"]) F sc_are_rules rfl fun cdv A outer s H E hr pf po tk => ?_
  have hu : (A.deeper (envOfC "are_rules" (defScope s_are_rules) s.heap.objs.size f cdv)).units + 65 < cLine := by have := hr.un; omega
  exact ⟨_, (pds_cons (pd_ifS (pdt_w (pdw_or (pdt_not (pdt_val (pd_isi .tuple m_isinstance m_tuple (pd_var 0)))) (pdw_or (pdt_not (pdt_chain c_le c_le pd_int (pd_blt b_len (by rfl) m_len PySem.boot_len (pda_cons (pd_var 0) pda_nil)) pd_int)) (pdw_or1 (pdt_not (pdt_val (pd_blt (b_all (by rfl)) (by rfl) m_all (by decide +kernel) (pda_cons (pd_lc (own := [("one", 1)]) rfl sc_are_rules.nd (pi_u (pd_var 0)) (blkOk_by (own := [("one", 1)]) (N := ["thing", "one"]) (sc := defScope s_are_rules) (by decide +kernel)) (fun _ _ _ _ _ => (pg_n 1 sc_are_rules.nd)) (fun _ _ _ _ _ => pdts_nil) (fun _ _ _ _ _ => (pd_call (c_is_rule.fnd hr passN) (pda_cons (pd_var 1) pda_nil) (dCons_len dNil_len))) (tgok_name (by decide))) pda_nil)))))))) (pds_one (pd_ret pd_bl)) pds_nil)
    (pds_one (pd_ret (pd_cmp (c_eq hu) (pd_lenSetM (by rfl) hu (by rfl) m_len (by rfl) m_set (pd_var 0)) (pd_blt b_len (by rfl) m_len PySem.boot_len (pda_cons (pd_var 0) pda_nil))))))⟩
abbrev s__law_cell : Stmt := top 8
theorem sc__law_cell : FnScope ["_law_script", "_law_k"] ["_law_script", "_law_k"] (defScope s__law_cell) := ⟨rfl, rfl, rfl, by decide +kernel, rfl, by decide +kernel, by decide +kernel⟩
def d__law_cell : DS := (dSeq (dIfS (dTest (dOp fLt (dVar 1) (dCB fLen (dCons (dVar 0) dNil)))) (dRet (dOp fIx (dVar 0) (dVar 1))) dNext)
    (dRet (dC (.int 0))))
def F__law_cell : List D → Om → Res D := runF d__law_cell 2 2
theorem ok__law_cell {f : Addr} {fd : FuncData} (F : FunD K "_law_cell" "_law_cell" (defArgs s__law_cell) (defBody s__law_cell) (defScope s__law_cell) [] [] f fd) (m_len : mg "len" = none) : FnOk P w K mg base (L2N.CX P w) 1 f fd ["_law_script", "_law_k"] (spD K 2 F__law_cell) := by
  refine def_ok (N := ["_law_script", "_law_k"]) F sc__law_cell rfl fun cdv A outer s H E hr pf po tk => ?_
  have hu : (A.deeper (envOfC "_law_cell" (defScope s__law_cell) s.heap.objs.size f cdv)).units + 65 < cLine := by have := hr.un; omega
  exact ⟨_, (pds_cons (pd_ifS (pdt_cmp c_lt (pd_var 1) (pd_blt b_len (by rfl) m_len PySem.boot_len (pda_cons (pd_var 0) pda_nil))) (pds_one (pd_ret (pd_ix (pd_var 0) (pd_var 1)))) pds_nil)
    (pds_one (pd_ret pd_int)))⟩
abbrev s__law_mix : Stmt := top 9
theorem sc__law_mix : FnScope ["_law_cell_here", "_law_prime", "_law_many", "_law_blend"] ["_law_cell_here", "_law_prime", "_law_many"] (defScope s__law_mix) := ⟨rfl, rfl, rfl, by decide +kernel, rfl, by decide +kernel, by decide +kernel⟩
def d__law_mix : DS := (dSeq (dAsg (dOp fMod (dOp fMul (dVar 0) (dC (.int 48271))) (dVar 1)) (gN 3))
    (dRet (dOp fMod (dOp fMod (dOp fMul (dVar 3) (dOp fPlus (dVar 3) (dC (.int 7)))) (dVar 1)) (dVar 2))))
def F__law_mix : List D → Om → Res D := runF d__law_mix 4 3
theorem ok__law_mix {f : Addr} {fd : FuncData} (F : FunD K "_law_mix" "_law_mix" (defArgs s__law_mix) (defBody s__law_mix) (defScope s__law_mix) [] [] f fd) : FnOk P w K mg base (L2N.CX P w) 1 f fd ["_law_cell_here", "_law_prime", "_law_many"] (spD K 3 F__law_mix) := by
  refine def_ok (N := ["_law_cell_here", "_law_prime", "_law_many", "_law_blend"]) F sc__law_mix rfl fun cdv A outer s H E hr pf po tk => ?_
  have hu : (A.deeper (envOfC "_law_mix" (defScope s__law_mix) s.heap.objs.size f cdv)).units + 65 < cLine := by have := hr.un; omega
  exact ⟨_, (pds_cons (pd_set 3 sc__law_mix.nd (pd_mod (pd_mul (pd_var 0) pd_int) (pd_var 1)))
    (pds_one (pd_ret (pd_mod (pd_mod (pd_mul (pd_var 3) (pd_plus (pd_var 3) pd_int)) (pd_var 1)) (pd_var 2)))))⟩
abbrev s__law_signs : Stmt := top 10
theorem sc__law_signs : FnScope [] [] (defScope s__law_signs) := ⟨rfl, rfl, rfl, by decide +kernel, rfl, by decide +kernel, by decide +kernel⟩
def d__law_signs : DS := (dRet (dC (.str sAll)))
def F__law_signs : List D → Om → Res D := runF d__law_signs 0 0
theorem ok__law_signs {f : Addr} {fd : FuncData} (F : FunD K "_law_signs" "_law_signs" (defArgs s__law_signs) (defBody s__law_signs) (defScope s__law_signs) [] [] f fd) : FnOk P w K mg base (L2N.CX P w) 1 f fd [] (spD K 0 F__law_signs) := by
  refine def_ok (N := []) F sc__law_signs rfl fun cdv A outer s H E hr pf po tk => ?_
  have hu : (A.deeper (envOfC "_law_signs" (defScope s__law_signs) s.heap.objs.size f cdv)).units + 65 < cLine := by have := hr.un; omega
  exact ⟨_, (pds_one (pd_ret (pd_str sAll)))⟩
abbrev s__law_letters : Stmt := top 11
theorem sc__law_letters : FnScope ["_law_cell_here", "_law_many", "_law_letters_here", "_law_k"] ["_law_cell_here", "_law_many"] (defScope s__law_letters) := ⟨rfl, rfl, rfl, by decide +kernel, rfl, by decide +kernel, by decide +kernel⟩
def c__law_letters_1 : DE := (dLc (asR1 (dCons (dVar 1) dNil)) (gN 3) (nxT dYes) (nxE (dOp fIx (dVar 2) (dCall F__law_mix (dCons (dOp fPlus (dVar 0) (dOp fMul (dC (.int 7)) (dVar 3))) (dCons (dC (.int 9973)) (dCons (dC (.int 52)) dNil)))))) [3])
def d__law_letters : DS := (dSeq (dAsg (dC (.str sLet)) (gN 2))
    (dRet (dM1 fJoin (dC (.str [])) c__law_letters_1)))
def F__law_letters : List D → Om → Res D := runF d__law_letters 4 2
theorem ok__law_letters {f : Addr} {fd : FuncData} (F : FunD K "_law_letters" "_law_letters" (defArgs s__law_letters) (defBody s__law_letters) (defScope s__law_letters) [] [] f fd) (m_range : mg "range" = none) (c__law_mix : Cal P w K mg base 1 "_law_mix" 3 F__law_mix) : FnOk P w K mg base (L2N.CX P w) 2 f fd ["_law_cell_here", "_law_many"] (spD K 2 F__law_letters) := by
  refine def_ok (N := ["_law_cell_here", "_law_many", "_law_letters_here", "_law_k"]) F sc__law_letters rfl fun cdv A outer s H E hr pf po tk => ?_
  have hu : (A.deeper (envOfC "_law_letters" (defScope s__law_letters) s.heap.objs.size f cdv)).units + 65 < cLine := by have := hr.un; omega
  exact ⟨_, (pds_cons (pd_set 2 sc__law_letters.nd (pd_str sLet))
    (pds_one (pd_ret (pd_join (pd_str []) (pd_lc (own := [("_law_k", 3)]) rfl sc__law_letters.nd (pi_r1 m_range (pda_cons (pd_var 1) pda_nil)) (blkOk_by (own := [("_law_k", 3)]) (N := ["_law_cell_here", "_law_many", "_law_letters_here", "_law_k"]) (sc := defScope s__law_letters) (by decide +kernel)) (fun _ _ _ _ _ => (pg_n 3 sc__law_letters.nd)) (fun _ _ _ _ _ => pdts_nil) (fun _ _ _ _ _ => (pd_ix (pd_var 2) (pd_call (c__law_mix.fnd hr passN) (pda_cons (pd_plus (pd_var 0) (pd_mul pd_int (pd_var 3))) (pda_cons pd_int (pda_cons pd_int pda_nil))) (dCons_len (dCons_len (dCons_len dNil_len)))))) (tgok_name (by decide)))))))⟩
abbrev s__law_rule : Stmt := top 12
theorem sc__law_rule : FnScope ["_law_cell_here", "_law_signs_here", "_law_way", "_law_wrong", "_law_sign"] ["_law_cell_here"] (defScope s__law_rule) := ⟨rfl, rfl, rfl, by decide +kernel, rfl, by decide +kernel, by decide +kernel⟩
def c__law_rule_1 : DE := (dLc (asSeq (dCall F__law_signs dNil)) (gN 4) (nxT (dTest (dOp fNotIn (dVar 4) (dC (.str sLetB))))) (nxE (dVar 4)) [4])
def d__law_rule : DS := (dSeq (dAsg c__law_rule_1 (gN 1))
    (dSeq (dAsg (dCall F__law_mix (dCons (dVar 0) (dCons (dC (.int 9923)) (dCons (dC (.int 6)) dNil)))) (gN 2))
    (dSeq (dIfS (dTest (dOp fEq (dVar 2) (dC (.int 0)))) (dSeq (dAsg (dOp fIx (dTup (dCons (dC (.str [97])) (dCons (dC (.str [116, 101, 104])) (dCons (dC (.str [116, 104, 101])) (dCons (dUn fLower (dCall F__law_letters (dCons (dVar 0) (dCons (dOp fPlus (dC (.int 1)) (dCall F__law_mix (dCons (dVar 0) (dCons (dC (.int 9907)) (dCons (dC (.int 6)) dNil))))) dNil)))) dNil))))) (dCall F__law_mix (dCons (dVar 0) (dCons (dC (.int 9901)) (dCons (dC (.int 4)) dNil))))) (gN 3))
    (dRet (dTup (dCons (dC (.str [119, 111, 114, 100])) (dCons (dVar 3) (dCons (dOp fIx (dTup (dCons (dC (.str [])) (dCons (dC (.str [97])) (dCons (dC (.str [116, 104, 101])) (dCons (dUn fLower (dCall F__law_letters (dCons (dOp fPlus (dVar 0) (dC (.int 1))) (dCons (dC (.int 6)) dNil)))) dNil))))) (dCall F__law_mix (dCons (dVar 0) (dCons (dC (.int 9887)) (dCons (dC (.int 4)) dNil))))) dNil)))))) dNext)
    (dSeq (dIfS (dTest (dOp fEq (dVar 2) (dC (.int 1)))) (dRet (dTup (dCons (dC (.str [108, 111, 110, 103])) (dCons (dOp fPlus (dC (.int 1)) (dCall F__law_mix (dCons (dVar 0) (dCons (dC (.int 9883)) (dCons (dC (.int 9)) dNil))))) dNil)))) dNext)
    (dSeq (dIfS (dTest (dOp fEq (dVar 2) (dC (.int 2)))) (dRet (dTup (dCons (dC (.str [115, 105, 103, 110])) (dCons (dOp fIx (dTup (dCons (dC (.str [33])) (dCons (dC (.str [46])) (dCons (dOp fIx (dVar 1) (dCall F__law_mix (dCons (dVar 0) (dCons (dC (.int 9871)) (dCons (dCB fLen (dCons (dVar 1) dNil)) dNil))))) dNil)))) (dCall F__law_mix (dCons (dVar 0) (dCons (dC (.int 9859)) (dCons (dC (.int 3)) dNil))))) dNil)))) dNext)
    (dRet (dOp fIx (dTup (dCons (dTup (dCons (dC (.str [116, 119, 105, 99, 101])) dNil)) (dCons (dTup (dCons (dC (.str [98, 108, 97, 110, 107, 115])) dNil)) (dCons (dTup (dCons (dC (.str [103, 114, 101, 97, 116])) dNil)) dNil)))) (dOp fMinus (dVar 2) (dC (.int 3))))))))))
def F__law_rule : List D → Om → Res D := runF d__law_rule 5 1
theorem ok__law_rule {f : Addr} {fd : FuncData} (F : FunD K "_law_rule" "_law_rule" (defArgs s__law_rule) (defBody s__law_rule) (defScope s__law_rule) [] [] f fd) (m_len : mg "len" = none) (c__law_signs : Cal P w K mg base 2 "_law_signs" 0 F__law_signs) (c__law_mix : Cal P w K mg base 2 "_law_mix" 3 F__law_mix) (c__law_letters : Cal P w K mg base 2 "_law_letters" 2 F__law_letters) : FnOk P w K mg base (L2N.CX P w) 3 f fd ["_law_cell_here"] (spD K 1 F__law_rule) := by
  refine def_ok (N := ["_law_cell_here", "_law_signs_here", "_law_way", "_law_wrong", "_law_sign"]) F sc__law_rule rfl fun cdv A outer s H E hr pf po tk => ?_
  have hu : (A.deeper (envOfC "_law_rule" (defScope s__law_rule) s.heap.objs.size f cdv)).units + 65 < cLine := by have := hr.un; omega
  exact ⟨_, (pds_cons (pd_setLc 1 (own := [("_law_sign", 4)]) rfl sc__law_rule.nd (pi_u (pd_call0 (c__law_signs.fnd hr pf))) (blkOk_by (own := [("_law_sign", 4)]) (N := ["_law_cell_here", "_law_signs_here", "_law_way", "_law_wrong", "_law_sign"]) (sc := defScope s__law_rule) (by decide +kernel)) (fun _ _ _ _ _ => (pg_n 4 sc__law_rule.nd)) (fun _ _ _ _ _ => (pdts_one (pdt_cmp (c_notin hu) (pd_var 4) (pd_str sLetB) (by rfl)))) (fun _ _ _ _ _ => (pd_var 4)) (tgok_name (by decide)))
    (pds_cons (pd_set 2 sc__law_rule.nd (pd_call (c__law_mix.fnd hr pf) (pda_cons (pd_var 0) (pda_cons pd_int (pda_cons pd_int pda_nil))) (dCons_len (dCons_len (dCons_len dNil_len)))))
    (pds_cons (pd_ifS (pdt_cmp (c_eq hu) (pd_var 2) pd_int) (pds_cons (pd_set 3 sc__law_rule.nd (pd_ix (pd_tup (pda_cons (pd_str [97]) (pda_cons (pd_str [116, 101, 104]) (pda_cons (pd_str [116, 104, 101]) (pda_cons (pd_lower (pd_call (c__law_letters.fnd hr pf) (pda_cons (pd_var 0) (pda_cons (pd_plus pd_int (pd_call (c__law_mix.fnd hr pf) (pda_cons (pd_var 0) (pda_cons pd_int (pda_cons pd_int pda_nil))) (dCons_len (dCons_len (dCons_len dNil_len))))) pda_nil)) (dCons_len (dCons_len dNil_len)))) pda_nil))))) (pd_call (c__law_mix.fnd hr pf) (pda_cons (pd_var 0) (pda_cons pd_int (pda_cons pd_int pda_nil))) (dCons_len (dCons_len (dCons_len dNil_len))))))
    (pds_one (pd_ret (pd_tup (pda_cons (pd_str [119, 111, 114, 100]) (pda_cons (pd_var 3) (pda_cons (pd_ix (pd_tup (pda_cons (pd_str []) (pda_cons (pd_str [97]) (pda_cons (pd_str [116, 104, 101]) (pda_cons (pd_lower (pd_call (c__law_letters.fnd hr pf) (pda_cons (pd_plus (pd_var 0) pd_int) (pda_cons pd_int pda_nil)) (dCons_len (dCons_len dNil_len)))) pda_nil))))) (pd_call (c__law_mix.fnd hr pf) (pda_cons (pd_var 0) (pda_cons pd_int (pda_cons pd_int pda_nil))) (dCons_len (dCons_len (dCons_len dNil_len))))) pda_nil))))))) pds_nil)
    (pds_cons (pd_ifS (pdt_cmp (c_eq hu) (pd_var 2) pd_int) (pds_one (pd_ret (pd_tup (pda_cons (pd_str [108, 111, 110, 103]) (pda_cons (pd_plus pd_int (pd_call (c__law_mix.fnd hr pf) (pda_cons (pd_var 0) (pda_cons pd_int (pda_cons pd_int pda_nil))) (dCons_len (dCons_len (dCons_len dNil_len))))) pda_nil))))) pds_nil)
    (pds_cons (pd_ifS (pdt_cmp (c_eq hu) (pd_var 2) pd_int) (pds_one (pd_ret (pd_tup (pda_cons (pd_str [115, 105, 103, 110]) (pda_cons (pd_ix (pd_tup (pda_cons (pd_str [33]) (pda_cons (pd_str [46]) (pda_cons (pd_ix (pd_var 1) (pd_call (c__law_mix.fnd hr pf) (pda_cons (pd_var 0) (pda_cons pd_int (pda_cons (pd_blt b_len (by rfl) m_len PySem.boot_len (pda_cons (pd_var 1) pda_nil)) pda_nil))) (dCons_len (dCons_len (dCons_len dNil_len))))) pda_nil)))) (pd_call (c__law_mix.fnd hr pf) (pda_cons (pd_var 0) (pda_cons pd_int (pda_cons pd_int pda_nil))) (dCons_len (dCons_len (dCons_len dNil_len))))) pda_nil))))) pds_nil)
    (pds_one (pd_ret (pd_ix (pd_tup (pda_cons (pd_tup (pda_cons (pd_str [116, 119, 105, 99, 101]) pda_nil)) (pda_cons (pd_tup (pda_cons (pd_str [98, 108, 97, 110, 107, 115]) pda_nil)) (pda_cons (pd_tup (pda_cons (pd_str [103, 114, 101, 97, 116]) pda_nil)) pda_nil)))) (pd_minus (pd_var 2) pd_int)))))))))⟩
abbrev s__law_rules : Stmt := top 13
theorem sc__law_rules : FnScope ["_law_cell_here", "_law_found", "_law_k", "_law_rule_here"] ["_law_cell_here"] (defScope s__law_rules) := ⟨rfl, rfl, rfl, by decide +kernel, rfl, by decide +kernel, by decide +kernel⟩
def b__law_rules_1 : DS := (dSeq (dAsg (dCall F__law_rule (dCons (dOp fPlus (dVar 0) (dOp fMul (dC (.int 19)) (dVar 2))) dNil)) (gN 3))
    (dIfS (dTest (dOp fNotIn (dVar 3) (dVar 1))) (dAsg (dOp fPlus (dVar 1) (dTup (dCons (dVar 3) dNil))) (gN 1)) dNext))
def l__law_rules_2 : DS := (dFor (asR1 (dCons (dOp fPlus (dC (.int 1)) (dCall F__law_mix (dCons (dVar 0) (dCons (dC (.int 9857)) (dCons (dC (.int 4)) dNil))))) dNil)) (gN 2) b__law_rules_1)
def d__law_rules : DS := (dSeq (dAsg (dTup dNil) (gN 1))
    (dSeq l__law_rules_2
    (dRet (dVar 1))))
def F__law_rules : List D → Om → Res D := runF d__law_rules 4 1
theorem ok__law_rules {f : Addr} {fd : FuncData} (F : FunD K "_law_rules" "_law_rules" (defArgs s__law_rules) (defBody s__law_rules) (defScope s__law_rules) [] [] f fd) (m_range : mg "range" = none) (c__law_mix : Cal P w K mg base 3 "_law_mix" 3 F__law_mix) (c__law_rule : Cal P w K mg base 3 "_law_rule" 1 F__law_rule) : FnOk P w K mg base (L2N.CX P w) 4 f fd ["_law_cell_here"] (spD K 1 F__law_rules) := by
  refine def_ok (N := ["_law_cell_here", "_law_found", "_law_k", "_law_rule_here"]) F sc__law_rules rfl fun cdv A outer s H E hr pf po tk => ?_
  have hu : (A.deeper (envOfC "_law_rules" (defScope s__law_rules) s.heap.objs.size f cdv)).units + 65 < cLine := by have := hr.un; omega
  exact ⟨_, (pds_cons (pd_set 1 sc__law_rules.nd (pd_tup pda_nil))
    (pds_cons (pd_for po rfl (pi_r1 m_range (pda_cons (pd_plus pd_int (pd_call (c__law_mix.fnd hr pf) (pda_cons (pd_var 0) (pda_cons pd_int (pda_cons pd_int pda_nil))) (dCons_len (dCons_len (dCons_len dNil_len))))) pda_nil)) (pg_n 2 sc__law_rules.nd) (pds_cons (pd_set 3 sc__law_rules.nd (pd_call (c__law_rule.fnd hr pf) (pda_cons (pd_plus (pd_var 0) (pd_mul pd_int (pd_var 2))) pda_nil) (dCons_len dNil_len)))
    (pds_one (pd_ifS (pdt_cmp (c_notin hu) (pd_var 3) (pd_var 1) (by rfl)) (pds_one (pd_set 1 sc__law_rules.nd (pd_plus (pd_var 1) (pd_tup (pda_cons (pd_var 3) pda_nil))))) pds_nil))))
    (pds_one (pd_ret (pd_var 1)))))⟩
abbrev s__law_is_small : Stmt := top 14
theorem sc__law_is_small : FnScope ["_law_thing", "_law_least", "_law_sign"] ["_law_thing", "_law_least"] (defScope s__law_is_small) := ⟨rfl, rfl, rfl, by decide +kernel, rfl, by decide +kernel, by decide +kernel⟩
def c__law_is_small_1 : DE := (dLc (asSeq (dVar 0)) (gN 2) (nxT (dNotT (dTest (dChain fLe fLe (dC (.str [97])) (dVar 2) (dC (.str [122])))))) (nxE (dVar 2)) [2])
def d__law_is_small : DS := (dSeq (dIfS (dOrT (dNotT (dTest (dUn (fIsi .str) (dVar 0)))) (dOrT (dTest (dOp fLt (dCB fLen (dCons (dVar 0) dNil)) (dVar 1))) (dTest (dOp fGt (dCB fLen (dCons (dVar 0) dNil)) (dC (.int 6)))))) (dRet (dC (.bl false))) dNext)
    (dRet (dOp fEq c__law_is_small_1 (dLst dNil))))
def F__law_is_small : List D → Om → Res D := runF d__law_is_small 3 2
theorem ok__law_is_small {f : Addr} {fd : FuncData} (F : FunD K "_law_is_small" "_law_is_small" (defArgs s__law_is_small) (defBody s__law_is_small) (defScope s__law_is_small) [] [] f fd) (m_isinstance : mg "isinstance" = none) (m_str : mg "str" = none) (m_len : mg "len" = none) : FnOk P w K mg base (L2N.CX P w) 1 f fd ["_law_thing", "_law_least"] (spD K 2 F__law_is_small) := by
  refine def_ok (N := ["_law_thing", "_law_least", "_law_sign"]) F sc__law_is_small rfl fun cdv A outer s H E hr pf po tk => ?_
  have hu : (A.deeper (envOfC "_law_is_small" (defScope s__law_is_small) s.heap.objs.size f cdv)).units + 65 < cLine := by have := hr.un; omega
  exact ⟨_, (pds_cons (pd_ifS (pdt_w (pdw_or (pdt_not (pdt_val (pd_isi .str m_isinstance m_str (pd_var 0)))) (pdw_or (pdt_cmp c_lt (pd_blt b_len (by rfl) m_len PySem.boot_len (pda_cons (pd_var 0) pda_nil)) (pd_var 1)) (pdw_or1 (pdt_cmp c_gt (pd_blt b_len (by rfl) m_len PySem.boot_len (pda_cons (pd_var 0) pda_nil)) pd_int))))) (pds_one (pd_ret pd_bl)) pds_nil)
    (pds_one (pd_ret (pd_cmp (c_eq hu) (pd_lc (own := [("_law_sign", 2)]) rfl sc__law_is_small.nd (pi_u (pd_var 0)) (blkOk_by (own := [("_law_sign", 2)]) (N := ["_law_thing", "_law_least", "_law_sign"]) (sc := defScope s__law_is_small) (by decide +kernel)) (fun _ _ _ _ _ => (pg_n 2 sc__law_is_small.nd)) (fun _ _ _ _ _ => (pdts_one (pdt_not (pdt_chain c_le c_le (pd_str [97]) (pd_var 2) (pd_str [122]))))) (fun _ _ _ _ _ => (pd_var 2)) (tgok_name (by decide))) (pd_lst pda_nil)))))⟩
abbrev s__law_is_rule : Stmt := top 15
theorem sc__law_is_rule : FnScope ["_law_thing"] ["_law_thing"] (defScope s__law_is_rule) := ⟨rfl, rfl, rfl, by decide +kernel, rfl, by decide +kernel, by decide +kernel⟩
def d__law_is_rule : DS := (dSeq (dIfS (dOrT (dNotT (dTest (dUn (fIsi .tuple) (dVar 0)))) (dOrT (dTest (dOp fEq (dVar 0) (dTup dNil))) (dNotT (dTest (dUn (fIsi .str) (dOp fIx (dVar 0) (dC (.int 0)))))))) (dRet (dC (.bl false))) dNext)
    (dSeq (dIfS (dTest (dOp fIn (dOp fIx (dVar 0) (dC (.int 0))) (dTup (dCons (dC (.str [116, 119, 105, 99, 101])) (dCons (dC (.str [98, 108, 97, 110, 107, 115])) (dCons (dC (.str [103, 114, 101, 97, 116])) dNil)))))) (dRet (dOp fEq (dCB fLen (dCons (dVar 0) dNil)) (dC (.int 1)))) dNext)
    (dSeq (dIfS (dTest (dOp fEq (dOp fIx (dVar 0) (dC (.int 0))) (dC (.str [119, 111, 114, 100])))) (dRet (dAndV (dOp fEq (dCB fLen (dCons (dVar 0) dNil)) (dC (.int 3))) (dAndV (dCall F__law_is_small (dCons (dOp fIx (dVar 0) (dC (.int 1))) (dCons (dC (.int 1)) dNil))) (dCall F__law_is_small (dCons (dOp fIx (dVar 0) (dC (.int 2))) (dCons (dC (.int 0)) dNil)))))) dNext)
    (dSeq (dIfS (dTest (dOp fNe (dCB fLen (dCons (dVar 0) dNil)) (dC (.int 2)))) (dRet (dC (.bl false))) dNext)
    (dSeq (dIfS (dTest (dOp fEq (dOp fIx (dVar 0) (dC (.int 0))) (dC (.str [108, 111, 110, 103])))) (dRet (dAndV (dUn (fIsi .int) (dOp fIx (dVar 0) (dC (.int 1)))) (dAndV (dNotV (dUn (fIsi .bool) (dOp fIx (dVar 0) (dC (.int 1))))) (dChain fLt fLt (dC (.int 0)) (dOp fIx (dVar 0) (dC (.int 1))) (dC (.int 10)))))) dNext)
    (dSeq (dIfS (dOrT (dTest (dOp fNe (dOp fIx (dVar 0) (dC (.int 0))) (dC (.str [115, 105, 103, 110])))) (dOrT (dNotT (dTest (dUn (fIsi .str) (dOp fIx (dVar 0) (dC (.int 1)))))) (dTest (dOp fNe (dCB fLen (dCons (dOp fIx (dVar 0) (dC (.int 1))) dNil)) (dC (.int 1)))))) (dRet (dC (.bl false))) dNext)
    (dRet (dAndV (dChain fLe fLe (dC (.str [33])) (dOp fIx (dVar 0) (dC (.int 1))) (dC (.str [126]))) (dAndV (dNotV (dChain fLe fLe (dC (.str [97])) (dOp fIx (dVar 0) (dC (.int 1))) (dC (.str [122])))) (dNotV (dChain fLe fLe (dC (.str [65])) (dOp fIx (dVar 0) (dC (.int 1))) (dC (.str [90])))))))))))))
def F__law_is_rule : List D → Om → Res D := runF d__law_is_rule 1 1
theorem ok__law_is_rule {f : Addr} {fd : FuncData} (F : FunD K "_law_is_rule" "_law_is_rule" (defArgs s__law_is_rule) (defBody s__law_is_rule) (defScope s__law_is_rule) [] [] f fd) (m_isinstance : mg "isinstance" = none) (m_tuple : mg "tuple" = none) (m_str : mg "str" = none) (m_len : mg "len" = none) (m_int : mg "int" = none) (m_bool : mg "bool" = none) (c__law_is_small : Cal P w K mg base 1 "_law_is_small" 2 F__law_is_small) : FnOk P w K mg base (L2N.CX P w) 2 f fd ["_law_thing"] (spD K 1 F__law_is_rule) := by
  refine def_ok (N := ["_law_thing"]) F sc__law_is_rule rfl fun cdv A outer s H E hr pf po tk => ?_
  have hu : (A.deeper (envOfC "_law_is_rule" (defScope s__law_is_rule) s.heap.objs.size f cdv)).units + 65 < cLine := by have := hr.un; omega
  exact ⟨_, (pds_cons (pd_ifS (pdt_w (pdw_or (pdt_not (pdt_val (pd_isi .tuple m_isinstance m_tuple (pd_var 0)))) (pdw_or (pdt_cmp (c_eq hu) (pd_var 0) (pd_tup pda_nil)) (pdw_or1 (pdt_not (pdt_val (pd_isi .str m_isinstance m_str (pd_ix (pd_var 0) pd_int)))))))) (pds_one (pd_ret pd_bl)) pds_nil)
    (pds_cons (pd_ifS (pdt_cmp (c_in hu) (pd_ix (pd_var 0) pd_int) (pd_tup (pda_cons (pd_str [116, 119, 105, 99, 101]) (pda_cons (pd_str [98, 108, 97, 110, 107, 115]) (pda_cons (pd_str [103, 114, 101, 97, 116]) pda_nil)))) (by rfl)) (pds_one (pd_ret (pd_cmp (c_eq hu) (pd_blt b_len (by rfl) m_len PySem.boot_len (pda_cons (pd_var 0) pda_nil)) pd_int))) pds_nil)
    (pds_cons (pd_ifS (pdt_cmp (c_eq hu) (pd_ix (pd_var 0) pd_int) (pd_str [119, 111, 114, 100])) (pds_one (pd_ret (pd_and (pd_cmp (c_eq hu) (pd_blt b_len (by rfl) m_len PySem.boot_len (pda_cons (pd_var 0) pda_nil)) pd_int) (pd_and (pd_call (c__law_is_small.fnd hr pf) (pda_cons (pd_ix (pd_var 0) pd_int) (pda_cons pd_int pda_nil)) (dCons_len (dCons_len dNil_len))) (pd_one (pd_call (c__law_is_small.fnd hr pf) (pda_cons (pd_ix (pd_var 0) pd_int) (pda_cons pd_int pda_nil)) (dCons_len (dCons_len dNil_len)))))))) pds_nil)
    (pds_cons (pd_ifS (pdt_cmp (c_ne hu) (pd_blt b_len (by rfl) m_len PySem.boot_len (pda_cons (pd_var 0) pda_nil)) pd_int) (pds_one (pd_ret pd_bl)) pds_nil)
    (pds_cons (pd_ifS (pdt_cmp (c_eq hu) (pd_ix (pd_var 0) pd_int) (pd_str [108, 111, 110, 103])) (pds_one (pd_ret (pd_and (pd_isi .int m_isinstance m_int (pd_ix (pd_var 0) pd_int)) (pd_and (pd_not (pd_isi .bool m_isinstance m_bool (pd_ix (pd_var 0) pd_int))) (pd_one (pd_chain c_lt c_lt pd_int (pd_ix (pd_var 0) pd_int) pd_int)))))) pds_nil)
    (pds_cons (pd_ifS (pdt_w (pdw_or (pdt_cmp (c_ne hu) (pd_ix (pd_var 0) pd_int) (pd_str [115, 105, 103, 110])) (pdw_or (pdt_not (pdt_val (pd_isi .str m_isinstance m_str (pd_ix (pd_var 0) pd_int)))) (pdw_or1 (pdt_cmp (c_ne hu) (pd_blt b_len (by rfl) m_len PySem.boot_len (pda_cons (pd_ix (pd_var 0) pd_int) pda_nil)) pd_int))))) (pds_one (pd_ret pd_bl)) pds_nil)
    (pds_one (pd_ret (pd_and (pd_chain c_le c_le (pd_str [33]) (pd_ix (pd_var 0) pd_int) (pd_str [126])) (pd_and (pd_not (pd_chain c_le c_le (pd_str [97]) (pd_ix (pd_var 0) pd_int) (pd_str [122]))) (pd_one (pd_not (pd_chain c_le c_le (pd_str [65]) (pd_ix (pd_var 0) pd_int) (pd_str [90]))))))))))))))⟩
abbrev s__law_strange : Stmt := top 16
theorem sc__law_strange : FnScope ["_law_cell_here", "_law_signs_here", "_law_some", "_law_k"] ["_law_cell_here"] (defScope s__law_strange) := ⟨rfl, rfl, rfl, by decide +kernel, rfl, by decide +kernel, by decide +kernel⟩
def c__law_strange_1 : DE := (dLc (asR1 (dCons (dC (.int 12)) dNil)) (gN 3) (nxT dYes) (nxE (dTup (dCons (dC (.str [115, 105, 103, 110])) (dCons (dOp fIx (dVar 1) (dCall F__law_mix (dCons (dOp fPlus (dVar 0) (dVar 3)) (dCons (dC (.int 9817)) (dCons (dCB fLen (dCons (dVar 1) dNil)) dNil))))) dNil)))) [3])
def d__law_strange : DS := (dSeq (dAsg (dCall F__law_signs dNil) (gN 1))
    (dSeq (dAsg (dLst (dCons (dC .non) (dCons (dC (.int 5)) (dCons (dC (.str [116, 119, 105, 99, 101])) (dCons (dTup dNil) (dCons (dTup (dCons (dC (.str [116, 119, 105, 99, 101])) (dCons (dC (.int 1)) dNil))) (dCons (dTup (dCons (dC (.str [98, 108, 97, 110, 107, 115])) (dCons (dC (.str [])) dNil))) dNil))))))) (gN 2))
    (dSeq (dAsg (dOp fPlus (dVar 2) (dLst (dCons (dTup (dCons (dC (.str [103, 114, 101, 97, 116])) (dCons (dC .non) dNil))) (dCons (dTup (dCons (dC (.int 5)) dNil)) (dCons (dTup (dCons (dC .non) (dCons (dC (.str [97])) dNil))) (dCons (dLst (dCons (dC (.str [116, 119, 105, 99, 101])) dNil)) (dCons (dTup (dCons (dC (.str [84, 119, 105, 99, 101])) dNil)) dNil))))))) (gN 2))
    (dSeq (dAsg (dOp fPlus (dVar 2) (dLst (dCons (dTup (dCons (dC (.str [119, 111, 114, 100])) (dCons (dC (.str [116, 101, 104])) dNil))) (dCons (dTup (dCons (dC (.str [119, 111, 114, 100])) (dCons (dC (.str [])) (dCons (dC (.str [97])) dNil)))) (dCons (dTup (dCons (dC (.str [119, 111, 114, 100])) (dCons (dC (.str [97, 98, 99, 100, 101, 102, 103])) (dCons (dC (.str [97])) dNil)))) dNil))))) (gN 2))
    (dSeq (dAsg (dOp fPlus (dVar 2) (dLst (dCons (dTup (dCons (dC (.str [119, 111, 114, 100])) (dCons (dC (.str [116, 101, 104])) (dCons (dC (.str [97, 98, 99, 100, 101, 102, 103])) dNil)))) (dCons (dTup (dCons (dC (.str [119, 111, 114, 100])) (dCons (dC (.int 5)) (dCons (dC (.str [97])) dNil)))) dNil)))) (gN 2))
    (dSeq (dAsg (dOp fPlus (dVar 2) (dLst (dCons (dTup (dCons (dC (.str [119, 111, 114, 100])) (dCons (dC (.str [116, 101, 104])) (dCons (dC .non) dNil)))) (dCons (dTup (dCons (dC (.str [119, 111, 114, 100])) (dCons (dC (.str [84, 101, 104])) (dCons (dC (.str [97])) dNil)))) (dCons (dTup (dCons (dC (.str [119, 111, 114, 100])) (dCons (dC (.str [116, 101, 32, 104])) (dCons (dC (.str [97])) dNil)))) dNil))))) (gN 2))
    (dSeq (dAsg (dOp fPlus (dVar 2) (dLst (dCons (dTup (dCons (dC (.str [119, 111, 114, 100])) (dCons (dC (.str [116, 101, 104])) (dCons (dC (.str [])) dNil)))) (dCons (dTup (dCons (dC (.str [119, 111, 114, 100])) (dCons (dC (.str [116])) (dCons (dC (.str [116, 104])) (dCons (dC (.str [])) dNil))))) dNil)))) (gN 2))
    (dSeq (dAsg (dOp fPlus (dVar 2) (dLst (dCons (dTup (dCons (dC (.str [108, 111, 110, 103])) (dCons (dC (.int 0)) dNil))) (dCons (dTup (dCons (dC (.str [108, 111, 110, 103])) (dCons (dC (.int 1)) dNil))) (dCons (dTup (dCons (dC (.str [108, 111, 110, 103])) (dCons (dC (.int 9)) dNil))) (dCons (dTup (dCons (dC (.str [108, 111, 110, 103])) (dCons (dC (.int 10)) dNil))) dNil)))))) (gN 2))
    (dSeq (dAsg (dOp fPlus (dVar 2) (dLst (dCons (dTup (dCons (dC (.str [108, 111, 110, 103])) (dCons (dC (.bl true)) dNil))) (dCons (dTup (dCons (dC (.str [108, 111, 110, 103])) (dCons (dC (.str [51])) dNil))) (dCons (dTup (dCons (dC (.str [108, 111, 110, 103])) dNil)) (dCons (dTup (dCons (dC (.str [108, 111, 110, 103])) (dCons (dC (.int 3)) (dCons (dC (.int 3)) dNil)))) dNil)))))) (gN 2))
    (dSeq (dAsg (dOp fPlus (dVar 2) (dLst (dCons (dTup (dCons (dC (.str [115, 105, 103, 110])) (dCons (dC (.str [])) dNil))) (dCons (dTup (dCons (dC (.str [115, 105, 103, 110])) (dCons (dC (.str [33, 33])) dNil))) (dCons (dTup (dCons (dC (.str [115, 105, 103, 110])) (dCons (dC (.str [32])) dNil))) (dCons (dTup (dCons (dC (.str [115, 105, 103, 110])) (dCons (dC .non) dNil))) dNil)))))) (gN 2))
    (dSeq (dAsg (dOp fPlus (dVar 2) (dLst (dCons (dTup (dCons (dC (.str [115, 105, 103, 110])) (dCons (dC (.str [33])) dNil))) (dCons (dTup (dCons (dC (.str [115, 105, 103, 110])) dNil)) (dCons (dTup (dCons (dC (.str [115, 105, 103, 110])) (dCons (dC (.str [97])) (dCons (dC (.str [98])) dNil)))) (dCons (dTup (dCons (dC (.str [115, 105, 103, 104])) (dCons (dC (.str [33])) dNil))) dNil)))))) (gN 2))
    (dRet (dOp fPlus (dVar 2) c__law_strange_1)))))))))))))
def F__law_strange : List D → Om → Res D := runF d__law_strange 4 1
theorem ok__law_strange {f : Addr} {fd : FuncData} (F : FunD K "_law_strange" "_law_strange" (defArgs s__law_strange) (defBody s__law_strange) (defScope s__law_strange) [] [] f fd) (m_range : mg "range" = none) (m_len : mg "len" = none) (c__law_signs : Cal P w K mg base 1 "_law_signs" 0 F__law_signs) (c__law_mix : Cal P w K mg base 1 "_law_mix" 3 F__law_mix) : FnOk P w K mg base (L2N.CX P w) 2 f fd ["_law_cell_here"] (spD K 1 F__law_strange) := by
  refine def_ok (N := ["_law_cell_here", "_law_signs_here", "_law_some", "_law_k"]) F sc__law_strange rfl fun cdv A outer s H E hr pf po tk => ?_
  have hu : (A.deeper (envOfC "_law_strange" (defScope s__law_strange) s.heap.objs.size f cdv)).units + 65 < cLine := by have := hr.un; omega
  exact ⟨_, (pds_cons (pd_set 1 sc__law_strange.nd (pd_call0 (c__law_signs.fnd hr pf)))
    (pds_cons (pd_set 2 sc__law_strange.nd (pd_lst (pda_cons pd_non (pda_cons pd_int (pda_cons (pd_str [116, 119, 105, 99, 101]) (pda_cons (pd_tup pda_nil) (pda_cons (pd_tup (pda_cons (pd_str [116, 119, 105, 99, 101]) (pda_cons pd_int pda_nil))) (pda_cons (pd_tup (pda_cons (pd_str [98, 108, 97, 110, 107, 115]) (pda_cons (pd_str []) pda_nil))) pda_nil))))))))
    (pds_cons (pd_set 2 sc__law_strange.nd (pd_plus (pd_var 2) (pd_lst (pda_cons (pd_tup (pda_cons (pd_str [103, 114, 101, 97, 116]) (pda_cons pd_non pda_nil))) (pda_cons (pd_tup (pda_cons pd_int pda_nil)) (pda_cons (pd_tup (pda_cons pd_non (pda_cons (pd_str [97]) pda_nil))) (pda_cons (pd_lst (pda_cons (pd_str [116, 119, 105, 99, 101]) pda_nil)) (pda_cons (pd_tup (pda_cons (pd_str [84, 119, 105, 99, 101]) pda_nil)) pda_nil))))))))
    (pds_cons (pd_set 2 sc__law_strange.nd (pd_plus (pd_var 2) (pd_lst (pda_cons (pd_tup (pda_cons (pd_str [119, 111, 114, 100]) (pda_cons (pd_str [116, 101, 104]) pda_nil))) (pda_cons (pd_tup (pda_cons (pd_str [119, 111, 114, 100]) (pda_cons (pd_str []) (pda_cons (pd_str [97]) pda_nil)))) (pda_cons (pd_tup (pda_cons (pd_str [119, 111, 114, 100]) (pda_cons (pd_str [97, 98, 99, 100, 101, 102, 103]) (pda_cons (pd_str [97]) pda_nil)))) pda_nil))))))
    (pds_cons (pd_set 2 sc__law_strange.nd (pd_plus (pd_var 2) (pd_lst (pda_cons (pd_tup (pda_cons (pd_str [119, 111, 114, 100]) (pda_cons (pd_str [116, 101, 104]) (pda_cons (pd_str [97, 98, 99, 100, 101, 102, 103]) pda_nil)))) (pda_cons (pd_tup (pda_cons (pd_str [119, 111, 114, 100]) (pda_cons pd_int (pda_cons (pd_str [97]) pda_nil)))) pda_nil)))))
    (pds_cons (pd_set 2 sc__law_strange.nd (pd_plus (pd_var 2) (pd_lst (pda_cons (pd_tup (pda_cons (pd_str [119, 111, 114, 100]) (pda_cons (pd_str [116, 101, 104]) (pda_cons pd_non pda_nil)))) (pda_cons (pd_tup (pda_cons (pd_str [119, 111, 114, 100]) (pda_cons (pd_str [84, 101, 104]) (pda_cons (pd_str [97]) pda_nil)))) (pda_cons (pd_tup (pda_cons (pd_str [119, 111, 114, 100]) (pda_cons (pd_str [116, 101, 32, 104]) (pda_cons (pd_str [97]) pda_nil)))) pda_nil))))))
    (pds_cons (pd_set 2 sc__law_strange.nd (pd_plus (pd_var 2) (pd_lst (pda_cons (pd_tup (pda_cons (pd_str [119, 111, 114, 100]) (pda_cons (pd_str [116, 101, 104]) (pda_cons (pd_str []) pda_nil)))) (pda_cons (pd_tup (pda_cons (pd_str [119, 111, 114, 100]) (pda_cons (pd_str [116]) (pda_cons (pd_str [116, 104]) (pda_cons (pd_str []) pda_nil))))) pda_nil)))))
    (pds_cons (pd_set 2 sc__law_strange.nd (pd_plus (pd_var 2) (pd_lst (pda_cons (pd_tup (pda_cons (pd_str [108, 111, 110, 103]) (pda_cons pd_int pda_nil))) (pda_cons (pd_tup (pda_cons (pd_str [108, 111, 110, 103]) (pda_cons pd_int pda_nil))) (pda_cons (pd_tup (pda_cons (pd_str [108, 111, 110, 103]) (pda_cons pd_int pda_nil))) (pda_cons (pd_tup (pda_cons (pd_str [108, 111, 110, 103]) (pda_cons pd_int pda_nil))) pda_nil)))))))
    (pds_cons (pd_set 2 sc__law_strange.nd (pd_plus (pd_var 2) (pd_lst (pda_cons (pd_tup (pda_cons (pd_str [108, 111, 110, 103]) (pda_cons pd_bl pda_nil))) (pda_cons (pd_tup (pda_cons (pd_str [108, 111, 110, 103]) (pda_cons (pd_str [51]) pda_nil))) (pda_cons (pd_tup (pda_cons (pd_str [108, 111, 110, 103]) pda_nil)) (pda_cons (pd_tup (pda_cons (pd_str [108, 111, 110, 103]) (pda_cons pd_int (pda_cons pd_int pda_nil)))) pda_nil)))))))
    (pds_cons (pd_set 2 sc__law_strange.nd (pd_plus (pd_var 2) (pd_lst (pda_cons (pd_tup (pda_cons (pd_str [115, 105, 103, 110]) (pda_cons (pd_str []) pda_nil))) (pda_cons (pd_tup (pda_cons (pd_str [115, 105, 103, 110]) (pda_cons (pd_str [33, 33]) pda_nil))) (pda_cons (pd_tup (pda_cons (pd_str [115, 105, 103, 110]) (pda_cons (pd_str [32]) pda_nil))) (pda_cons (pd_tup (pda_cons (pd_str [115, 105, 103, 110]) (pda_cons pd_non pda_nil))) pda_nil)))))))
    (pds_cons (pd_set 2 sc__law_strange.nd (pd_plus (pd_var 2) (pd_lst (pda_cons (pd_tup (pda_cons (pd_str [115, 105, 103, 110]) (pda_cons (pd_str [33]) pda_nil))) (pda_cons (pd_tup (pda_cons (pd_str [115, 105, 103, 110]) pda_nil)) (pda_cons (pd_tup (pda_cons (pd_str [115, 105, 103, 110]) (pda_cons (pd_str [97]) (pda_cons (pd_str [98]) pda_nil)))) (pda_cons (pd_tup (pda_cons (pd_str [115, 105, 103, 104]) (pda_cons (pd_str [33]) pda_nil))) pda_nil)))))))
    (pds_one (pd_ret (pd_plus (pd_var 2) (pd_lc (own := [("_law_k", 3)]) rfl sc__law_strange.nd (pi_r1 m_range (pda_cons pd_int pda_nil)) (blkOk_by (own := [("_law_k", 3)]) (N := ["_law_cell_here", "_law_signs_here", "_law_some", "_law_k"]) (sc := defScope s__law_strange) (by decide +kernel)) (fun _ _ _ _ _ => (pg_n 3 sc__law_strange.nd)) (fun _ _ _ _ _ => pdts_nil) (fun _ _ _ _ _ => (pd_tup (pda_cons (pd_str [115, 105, 103, 110]) (pda_cons (pd_ix (pd_var 1) (pd_call (c__law_mix.fnd hr passN) (pda_cons (pd_plus (pd_var 0) (pd_var 3)) (pda_cons pd_int (pda_cons (pd_blt b_len (by rfl) m_len PySem.boot_len (pda_cons (pd_var 1) pda_nil)) pda_nil))) (dCons_len (dCons_len (dCons_len dNil_len))))) pda_nil)))) (tgok_name (by decide)))))))))))))))))⟩
abbrev s_law : Stmt := top 17
theorem sc_law : FnScope ["_law_script", "_law_k", "_law_cell_here", "_law_rules_here", "_law_at", "_law_thing", "_law_some", "_law_rest", "_law_due", "_law_told", "_law_five", "_law_rule_here", "_law_many"] ["_law_script"] (defScope s_law) := ⟨rfl, rfl, rfl, by decide +kernel, rfl, by decide +kernel, by decide +kernel⟩
def c_law_1 : DE := (dLc (asSeq (dVar 7)) (gN 11) (nxT (dTest (dOp fEq (dVar 11) (dVar 5)))) (nxE (dVar 11)) [11])
def b_law_2 : DS := (dSeq (dAsg (dOp fPlus (dOp fPlus (dSl (dVar 3) dNoP (dPart (dVar 4))) (dTup (dCons (dVar 5) dNil))) (dSl (dVar 3) (dPart (dOp fPlus (dVar 4) (dC (.int 1)))) dNoP)) (gN 6))
    (dSeq (dAsg (dOp fPlus (dSl (dVar 3) dNoP (dPart (dVar 4))) (dSl (dVar 3) (dPart (dOp fPlus (dVar 4) (dC (.int 1)))) dNoP)) (gN 7))
    (dSeq (dAsg (dAndV (dCall F__law_is_rule (dCons (dVar 5) dNil)) (dOp fEq c_law_1 (dLst dNil))) (gN 8))
    (dSeq (dAsg (dCall F_are_rules (dCons (dVar 6) dNil)) (gN 9))
    (dIfS (dOrT (dAndT (dTest (dOp fIsNot (dVar 9) (dC (.bl true)))) (dTruth (dVar 8))) (dAndT (dTest (dOp fIsNot (dVar 9) (dC (.bl false)))) (dNotT (dTruth (dVar 8))))) (dRet (dC (.bl false))) dNext)))))
def l_law_3 : DS := (dFor (asSeq (dCall F__law_strange (dCons (dVar 2) dNil))) (gN 5) b_law_2)
def b_law_4 : DS := (dSeq (dAsg (dOp fPlus (dCall F__law_cell (dCons (dVar 0) (dCons (dOp fMod (dVar 1) (dC (.int 9))) dNil))) (dOp fMul (dC (.int 31)) (dVar 1))) (gN 2))
    (dSeq (dAsg (dCall F__law_rules (dCons (dVar 2) dNil)) (gN 3))
    (dSeq (dIfS (dOrT (dTest (dOp fIsNot (dCall F_are_rules (dCons (dVar 3) dNil)) (dC (.bl true)))) (dTest (dOp fIsNot (dCall F_are_rules (dCons (dCB fList (dCons (dVar 3) dNil)) dNil)) (dC (.bl false))))) (dRet (dC (.bl false))) dNext)
    (dSeq (dIfS (dTest (dOp fIsNot (dCall F_are_rules (dCons (dOp fPlus (dVar 3) (dSl (dVar 3) dNoP (dPart (dC (.int 1))))) dNil)) (dC (.bl false)))) (dRet (dC (.bl false))) dNext)
    (dSeq (dAsg (dCall F__law_mix (dCons (dVar 2) (dCons (dC (.int 9811)) (dCons (dCB fLen (dCons (dVar 3) dNil)) dNil)))) (gN 4))
    l_law_3)))))
def l_law_5 : DS := (dFor (asR1 (dCons (dC (.int 10)) dNil)) (gN 1) b_law_4)
def c_law_6 : DE := (dLc (asSeq (dTup (dCons (dC (.int 1)) (dCons (dC (.int 2)) (dCons (dC (.int 3)) (dCons (dC (.int 4)) (dCons (dC (.int 5)) dNil))))))) (gN 12) (nxT dYes) (nxE (dTup (dCons (dC (.str [108, 111, 110, 103])) (dCons (dVar 12) dNil)))) [12])
def d_law : DS := (dSeq l_law_5
    (dSeq (dAsg (dCB fTuple (dCons c_law_6 dNil)) (gN 10))
    (dSeq (dIfS (dOrT (dTest (dOp fIsNot (dCall F_are_rules (dCons (dSl (dVar 10) dNoP (dPart (dC (.int 4)))) dNil)) (dC (.bl true)))) (dTest (dOp fIsNot (dCall F_are_rules (dCons (dVar 10) dNil)) (dC (.bl false))))) (dRet (dC (.bl false))) dNext)
    (dRet (dAndV (dOp fIs (dCall F_are_rules (dCons (dTup dNil) dNil)) (dC (.bl false))) (dOp fIs (dCall F_are_rules (dCons (dC .non) dNil)) (dC (.bl false))))))))
def F_law : List D → Om → Res D := runF d_law 13 1
theorem ok_law {f : Addr} {fd : FuncData} (F : FunD K "law" "law" (defArgs s_law) (defBody s_law) (defScope s_law) [] [] f fd) (m_range : mg "range" = none) (m_list : mg "list" = none) (m_len : mg "len" = none) (m_tuple : mg "tuple" = none) (c__law_cell : Cal P w K mg base 4 "_law_cell" 2 F__law_cell) (c__law_rules : Cal P w K mg base 4 "_law_rules" 1 F__law_rules) (c_are_rules : Cal P w K mg base 4 "are_rules" 1 F_are_rules) (c__law_mix : Cal P w K mg base 4 "_law_mix" 3 F__law_mix) (c__law_strange : Cal P w K mg base 4 "_law_strange" 1 F__law_strange) (c__law_is_rule : Cal P w K mg base 4 "_law_is_rule" 1 F__law_is_rule) : FnOk P w K mg base (L2N.CX P w) 5 f fd ["_law_script"] (spD K 1 F_law) := by
  refine def_ok (N := ["_law_script", "_law_k", "_law_cell_here", "_law_rules_here", "_law_at", "_law_thing", "_law_some", "_law_rest", "_law_due", "_law_told", "_law_five", "_law_rule_here", "_law_many"]) F sc_law rfl fun cdv A outer s H E hr pf po tk => ?_
  have hu : (A.deeper (envOfC "law" (defScope s_law) s.heap.objs.size f cdv)).units + 65 < cLine := by have := hr.un; omega
  exact ⟨_, (pds_cons (pd_for po rfl (pi_r1 m_range (pda_cons pd_int pda_nil)) (pg_n 1 sc_law.nd) (pds_cons (pd_set 2 sc_law.nd (pd_plus (pd_call (c__law_cell.fnd hr pf) (pda_cons (pd_var 0) (pda_cons (pd_mod (pd_var 1) pd_int) pda_nil)) (dCons_len (dCons_len dNil_len))) (pd_mul pd_int (pd_var 1))))
    (pds_cons (pd_set 3 sc_law.nd (pd_call (c__law_rules.fnd hr pf) (pda_cons (pd_var 2) pda_nil) (dCons_len dNil_len)))
    (pds_cons (pd_ifS (pdt_w (pdw_or (pdt_cmp c_isnot (pd_call (c_are_rules.fnd hr pf) (pda_cons (pd_var 3) pda_nil) (dCons_len dNil_len)) pd_bl) (pdw_or1 (pdt_cmp c_isnot (pd_call (c_are_rules.fnd hr pf) (pda_cons (pd_bty b_list (by rfl) m_list (by decide +kernel) (pda_cons (pd_var 3) pda_nil)) pda_nil) (dCons_len dNil_len)) pd_bl)))) (pds_one (pd_ret pd_bl)) pds_nil)
    (pds_cons (pd_ifS (pdt_cmp c_isnot (pd_call (c_are_rules.fnd hr pf) (pda_cons (pd_plus (pd_var 3) (pd_slice (pd_var 3) pdo_none (pdo_some pd_int))) pda_nil) (dCons_len dNil_len)) pd_bl) (pds_one (pd_ret pd_bl)) pds_nil)
    (pds_cons (pd_set 4 sc_law.nd (pd_call (c__law_mix.fnd hr pf) (pda_cons (pd_var 2) (pda_cons pd_int (pda_cons (pd_blt b_len (by rfl) m_len PySem.boot_len (pda_cons (pd_var 3) pda_nil)) pda_nil))) (dCons_len (dCons_len (dCons_len dNil_len)))))
    (pds_one (pd_for po rfl (pi_u (pd_call (c__law_strange.fnd hr pf) (pda_cons (pd_var 2) pda_nil) (dCons_len dNil_len))) (pg_n 5 sc_law.nd) (pds_cons (pd_set 6 sc_law.nd (pd_plus (pd_plus (pd_slice (pd_var 3) pdo_none (pdo_some (pd_var 4))) (pd_tup (pda_cons (pd_var 5) pda_nil))) (pd_slice (pd_var 3) (pdo_some (pd_plus (pd_var 4) pd_int)) pdo_none)))
    (pds_cons (pd_set 7 sc_law.nd (pd_plus (pd_slice (pd_var 3) pdo_none (pdo_some (pd_var 4))) (pd_slice (pd_var 3) (pdo_some (pd_plus (pd_var 4) pd_int)) pdo_none)))
    (pds_cons (pd_set 8 sc_law.nd (pd_and (pd_call (c__law_is_rule.fnd hr pf) (pda_cons (pd_var 5) pda_nil) (dCons_len dNil_len)) (pd_one (pd_cmp (c_eq hu) (pd_lc (own := [("_law_rule_here", 11)]) rfl sc_law.nd (pi_u (pd_var 7)) (blkOk_by (own := [("_law_rule_here", 11)]) (N := ["_law_script", "_law_k", "_law_cell_here", "_law_rules_here", "_law_at", "_law_thing", "_law_some", "_law_rest", "_law_due", "_law_told", "_law_five", "_law_rule_here", "_law_many"]) (sc := defScope s_law) (by decide +kernel)) (fun _ _ _ _ _ => (pg_n 11 sc_law.nd)) (fun _ _ _ _ _ => (pdts_one (pdt_cmp (c_eq hu) (pd_var 11) (pd_var 5)))) (fun _ _ _ _ _ => (pd_var 11)) (tgok_name (by decide))) (pd_lst pda_nil)))))
    (pds_cons (pd_set 9 sc_law.nd (pd_call (c_are_rules.fnd hr pf) (pda_cons (pd_var 6) pda_nil) (dCons_len dNil_len)))
    (pds_one (pd_ifS (pdt_w (pdw_or (pdt_w (pdw_and (pdt_cmp c_isnot (pd_var 9) pd_bl) (pdw_and1 (pdt_truth (pd_var 8))))) (pdw_or1 (pdt_w (pdw_and (pdt_cmp c_isnot (pd_var 9) pd_bl) (pdw_and1 (pdt_not (pdt_truth (pd_var 8))))))))) (pds_one (pd_ret pd_bl)) pds_nil))))))))))))))
    (pds_cons (pd_set 10 sc_law.nd (pd_bty b_tuple (by rfl) m_tuple (by decide +kernel) (pda_cons (pd_lc (own := [("_law_many", 12)]) rfl sc_law.nd (pi_u (pd_tup (pda_cons pd_int (pda_cons pd_int (pda_cons pd_int (pda_cons pd_int (pda_cons pd_int pda_nil))))))) (blkOk_by (own := [("_law_many", 12)]) (N := ["_law_script", "_law_k", "_law_cell_here", "_law_rules_here", "_law_at", "_law_thing", "_law_some", "_law_rest", "_law_due", "_law_told", "_law_five", "_law_rule_here", "_law_many"]) (sc := defScope s_law) (by decide +kernel)) (fun _ _ _ _ _ => (pg_n 12 sc_law.nd)) (fun _ _ _ _ _ => pdts_nil) (fun _ _ _ _ _ => (pd_tup (pda_cons (pd_str [108, 111, 110, 103]) (pda_cons (pd_var 12) pda_nil)))) (tgok_name (by decide))) pda_nil)))
    (pds_cons (pd_ifS (pdt_w (pdw_or (pdt_cmp c_isnot (pd_call (c_are_rules.fnd hr pf) (pda_cons (pd_slice (pd_var 10) pdo_none (pdo_some pd_int)) pda_nil) (dCons_len dNil_len)) pd_bl) (pdw_or1 (pdt_cmp c_isnot (pd_call (c_are_rules.fnd hr pf) (pda_cons (pd_var 10) pda_nil) (dCons_len dNil_len)) pd_bl)))) (pds_one (pd_ret pd_bl)) pds_nil)
    (pds_one (pd_ret (pd_and (pd_cmp c_is (pd_call (c_are_rules.fnd hr pf) (pda_cons (pd_tup pda_nil) pda_nil) (dCons_len dNil_len)) pd_bl) (pd_one (pd_cmp c_is (pd_call (c_are_rules.fnd hr pf) (pda_cons pd_non pda_nil) (dCons_len dNil_len)) pd_bl))))))))⟩
end
end FmW
namespace FmP
open PySem PySem.Spec L2 Fm FmW
/-! ### what is drawn -/
theorem e_mix (c p m : Int) (Ω : Om) (hp : 0 < p ∧ p < 100000) (hm : 0 < m) : ∃ r : Nat, F__law_mix [.int c, .int p, .int m] Ω = .ok (.int (r : Int)) Ω ∧ (r : Int) < m := by
  have h1 : 0 ≤ c * 48271 % p := Int.emod_nonneg _ (by omega)
  have h2 : c * 48271 % p < p := Int.emod_lt_of_pos _ hp.1
  have h3 : 0 ≤ c * 48271 % p * (c * 48271 % p + 7) % p % m := Int.emod_nonneg _ (by omega)
  refine ⟨(c * 48271 % p * (c * 48271 % p + 7) % p % m).toNat, ?_, ?_⟩
  · rw [Int.toNat_of_nonneg h3]
    unfold F__law_mix d__law_mix
    simp only [fMul_int (i := c) (j := 48271) (by omega), fMod_int (i := c * 48271) hp.1, fMul_int (i := c * 48271 % p) (j := c * 48271 % p + 7) (by omega), fMod_int (i := c * 48271 % p * (c * 48271 % p + 7)) hp.1, fMod_int (i := c * 48271 % p * (c * 48271 % p + 7) % p) hm, runF, dSeq, Fl.then, Res.fl, Res.bind, lift, dC, dVar, dOp, dUn, dCB, dCons, dNil, dTup, dLst, dTest, toB, dAndT, dOrT, dNotT, dAndV, dOrV, dNotV, dIf, dIfS, dRet, dRetN, dDrop, dAsg, dPar, gN, gT, gNsC, gNs0, dNext, dWhile, dFor, dCall, dNew, dApp, dExt, dSetI, dRetOwn, dOwn, dTruQ, dIxQ, dSlQ, dTupQ, dLenQ, dTruth, truth, dSl, dPart, dNoP, dChain, dChain3, dLc, dYes, nxT, nxE, Res.nx, wipeD, asSeq, asEn, asR1, asR2, asZip, fLen, fTuple, fList, fPlus, fMinus, fLt, fLe, fGt, fGe, fIs, fIsNot, Fm.isNon, fIx, fSl, dM1, dML, fIntB, List.length_cons, List.length_nil, List.map_cons, List.map_nil, Nat.reduceAdd, Nat.reduceSub, List.replicate, List.append_eq, List.cons_append, List.nil_append, List.getElem?_cons_zero, List.getElem?_cons_succ, List.set_cons_zero, List.set_cons_succ, if_true, if_false, Bool.true_and, Bool.false_and, Bool.and_true, Bool.and_false, reduceIte, Option.map_some, Option.map_none]
  · rw [Int.toNat_of_nonneg h3]
    exact Int.emod_lt_of_pos _ hm
theorem e_cell (ns : List Int) (k : Nat) (Ω : Om) : ∃ c : Int, F__law_cell [.scr ns, .int (k : Int)] Ω = .ok (.int c) Ω := by
  by_cases h : k < ns.length
  · have e : atI ns (k : Int) = some ns[k] := Fm.atI_nat (List.getElem?_eq_getElem h)
    refine ⟨ns[k], ?_⟩
    unfold F__law_cell d__law_cell
    have hd : decide ((k : Int) < (ns.length : Int)) = true := decide_eq_true (by omega)
    simp only [hd, e, runF, dSeq, Fl.then, Res.fl, Res.bind, lift, dC, dVar, dOp, dUn, dCB, dCons, dNil, dTup, dLst, dTest, toB, dAndT, dOrT, dNotT, dAndV, dOrV, dNotV, dIf, dIfS, dRet, dRetN, dDrop, dAsg, dPar, gN, gT, gNsC, gNs0, dNext, dWhile, dFor, dCall, dNew, dApp, dExt, dSetI, dRetOwn, dOwn, dTruQ, dIxQ, dSlQ, dTupQ, dLenQ, dTruth, truth, dSl, dPart, dNoP, dChain, dChain3, dLc, dYes, nxT, nxE, Res.nx, wipeD, asSeq, asEn, asR1, asR2, asZip, fLen, fTuple, fList, fPlus, fMinus, fLt, fLe, fGt, fGe, fIs, fIsNot, Fm.isNon, fIx, fSl, dM1, dML, fIntB, List.length_cons, List.length_nil, List.map_cons, List.map_nil, Nat.reduceAdd, Nat.reduceSub, List.replicate, List.append_eq, List.cons_append, List.nil_append, List.getElem?_cons_zero, List.getElem?_cons_succ, List.set_cons_zero, List.set_cons_succ, if_true, if_false, Bool.true_and, Bool.false_and, Bool.and_true, Bool.and_false, reduceIte, Option.map_some, Option.map_none]
  · refine ⟨0, ?_⟩
    unfold F__law_cell d__law_cell
    have hd : decide ((k : Int) < (ns.length : Int)) = false := decide_eq_false (by omega)
    simp only [hd, Bool.false_eq_true, runF, dSeq, Fl.then, Res.fl, Res.bind, lift, dC, dVar, dOp, dUn, dCB, dCons, dNil, dTup, dLst, dTest, toB, dAndT, dOrT, dNotT, dAndV, dOrV, dNotV, dIf, dIfS, dRet, dRetN, dDrop, dAsg, dPar, gN, gT, gNsC, gNs0, dNext, dWhile, dFor, dCall, dNew, dApp, dExt, dSetI, dRetOwn, dOwn, dTruQ, dIxQ, dSlQ, dTupQ, dLenQ, dTruth, truth, dSl, dPart, dNoP, dChain, dChain3, dLc, dYes, nxT, nxE, Res.nx, wipeD, asSeq, asEn, asR1, asR2, asZip, fLen, fTuple, fList, fPlus, fMinus, fLt, fLe, fGt, fGe, fIs, fIsNot, Fm.isNon, fIx, fSl, dM1, dML, fIntB, List.length_cons, List.length_nil, List.map_cons, List.map_nil, Nat.reduceAdd, Nat.reduceSub, List.replicate, List.append_eq, List.cons_append, List.nil_append, List.getElem?_cons_zero, List.getElem?_cons_succ, List.set_cons_zero, List.set_cons_succ, if_true, if_false, Bool.true_and, Bool.false_and, Bool.and_true, Bool.and_false, reduceIte, Option.map_some, Option.map_none]
theorem pick_lst {ds : List D} {P : D → Prop} (h : ∀ d ∈ ds, P d) {r : Nat} (hr : r < ds.length) : ∃ d, fIx (.lst ds) (.int (r : Int)) = some d ∧ P d :=
  ⟨ds[r], fIx_lst (List.getElem?_eq_getElem hr), h _ (List.getElem_mem hr)⟩
theorem pick_tup {ds : List D} {P : D → Prop} (h : ∀ d ∈ ds, P d) {r : Nat} (hr : r < ds.length) : ∃ d, fIx (.tup ds) (.int (r : Int)) = some d ∧ P d :=
  ⟨ds[r], fIx_tup (List.getElem?_eq_getElem hr), h _ (List.getElem_mem hr)⟩
theorem pick_str {l : List Nat} {r : Nat} (hr : r < l.length) : ∃ c, fIx (.str l) (.int (r : Int)) = some (.str [c]) ∧ c ∈ l :=
  ⟨l[r], fIx_str (List.getElem?_eq_getElem hr), List.getElem_mem hr⟩
theorem strs_of : ∀ {ys : List D} {Q : Nat → Prop}, (∀ y ∈ ys, ∃ x, y = .str [x] ∧ Q x) → ∃ l : List Nat, strsD ys = some (l.map fun x => [x]) ∧ l.length = ys.length ∧ ∀ x ∈ l, Q x
  | [], _, _ => ⟨[], rfl, rfl, fun x hx => absurd hx (by simp)⟩
  | y :: ys, Q, h => by
    obtain ⟨x, rfl, hx⟩ := h y List.mem_cons_self
    obtain ⟨l, e1, e2, e3⟩ := strs_of (Q := Q) fun z hz => h z (List.mem_cons_of_mem _ hz)
    refine ⟨x :: l, ?_, by simp [e2], fun z hz => ?_⟩
    · show (strsD ys).map (fun l => [x] :: l) = _
      rw [e1] <;> rfl
    · rcases List.mem_cons.mp hz with rfl | hz
      · exact hx
      · exact e3 z hz
theorem flat_one : ∀ l : List Nat, (l.map fun x => [x]).flatten = l
  | [] => rfl
  | x :: l => by rw [List.map_cons, List.flatten_cons, flat_one l] <;> rfl
theorem sLet_len : sLet.length = 52 := by decide
theorem sAll_len : sAll.length = 94 := by decide
theorem e_letters (c : Int) (n : Nat) (Ω : Om) (hn : n ≤ 1000) : ∃ l, F__law_letters [.int c, .int (n : Int)] Ω = .ok (.str l) Ω ∧ l.length = n ∧ ∀ x ∈ l, x ∈ sLet := by
  obtain ⟨ys, e1, e2, e3⟩ : ∃ ys, c__law_letters_1 [.val (.int c), .val (.int (n : Int)), .val (.str sLet), .un] Ω = .ok (.lst ys) Ω ∧ ys.length = (rangeL 0 n).length ∧ ∀ y ∈ ys, ∃ x, y = .str [x] ∧ x ∈ sLet := by
    refine dLc_ex (fun y => ∃ x, y = .str [x] ∧ x ∈ sLet) (r1_ok (k := (n : Int)) rfl (by omega)) (by rw [rangeL_len]; unfold lim; omega) fun x hx => ?_
    obtain ⟨i, rfl, hi⟩ := rangeL_mem hx
    obtain ⟨r, h1, h2⟩ := e_mix (c + 7 * (0 + i)) 9973 52 Ω (by omega) (by omega)
    obtain ⟨d, h3, h4⟩ := pick_str (l := sLet) (r := r) (by rw [sLet_len]; omega)
    refine ⟨_, _, rfl, rfl, nxE_ok (op_ok rfl (call_ok (cons_ok (op_ok rfl (op_ok rfl rfl (fMul_int (by omega))) rfl) rfl) h1) h3), d, rfl, h4⟩
  obtain ⟨l, f1, f2, f3⟩ := strs_of e3
  rw [rangeL_len] at e2
  refine ⟨l, ?_, by omega, f3⟩
  refine run_rt rfl (seq_nx (asg_ok rfl rfl) (ret_ok (m1_ok rfl e1 ?_)))
  show (match strsD ys with | some ls => if ls.flatten.length ≤ lim then some (D.str ls.flatten) else none | none => none) = _
  rw [f1]
  show (if (l.map fun x => [x]).flatten.length ≤ lim then _ else _) = _
  rw [flat_one, if_pos (by unfold lim; omega)]
def strB (n m : Nat) (d : D) : Prop := ∃ l : List Nat, d = .str l ∧ n ≤ l.length ∧ l.length ≤ m
theorem strB_of {n m : Nat} {l : List Nat} (h1 : n ≤ l.length) (h2 : l.length ≤ m) : strB n m (.str l) := ⟨l, rfl, h1, h2⟩

/-! ### drawn rules -/
theorem sAz_eq : sAz = azL := rfl
theorem sLet_eq : sLet = azL ++ AZL := rfl
theorem isL_of {c : Nat} (h : c ∈ sLet) : isL c = true := mem_let.mp (by rw [sLet_eq] at h; exact h)
def signsL : List Nat := sAll.filter fun c => !decide (c ∈ sLetB)
theorem signs_ok : ∀ c ∈ signsL, okR (.sign c) = true := by decide +kernel
theorem signs_len : signsL.length = 41 := by decide +kernel
def notLB : D → Bool
  | .str [c] => !decide (c ∈ sLetB)
  | _ => true
theorem e_signs (ρ : Env1) (Ω : Om) (h4 : 4 < ρ.length) : c__law_rule_1 ρ Ω = .ok (.lst (signsL.map fun c => .str [c])) Ω := by
  have e := dLc_filter (di := asSeq (dCall F__law_signs dNil)) (dg := gN 4) (dt := nxT (dTest (dOp fNotIn (dVar 4) (dC (.str sLetB))))) (de := nxE (dVar 4)) (vs := [4]) (ρ := ρ) (Ω := Ω) (xs := sAll.map fun c => .str [c]) notLB id rfl (by rw [List.length_map, sAll_len]; unfold lim; omega) fun x hx => by
    obtain ⟨c, hc, rfl⟩ := List.mem_map.mp hx
    have hv : dVar 4 (((wipeD ρ [4]).set 4 (.val (.str [c])))) Ω = .ok (.str [c]) Ω := by
      unfold dVar
      rw [List.getElem?_set_self (by simpa [wipeD] using h4)]
    exact ⟨_, rfl, nxT_ok (test_ok (op_ok hv rfl rfl)), fun _ => nxE_ok hv⟩
  refine Eq.trans e ?_
  congr 2
def smB (n m : Nat) (d : D) : Prop := ∃ l : List Nat, d = .str l ∧ n ≤ l.length ∧ l.length ≤ m ∧ l.all isSm = true
theorem smB_lower {n m : Nat} {l : List Nat} (h1 : n ≤ l.length) (h2 : l.length ≤ m) (h : ∀ x ∈ l, x ∈ sLet) : smB n m (.str (l.map PyProof.Rows.lo1)) :=
  ⟨_, rfl, by rw [List.length_map]; exact h1, by rw [List.length_map]; exact h2, List.all_eq_true.mpr fun x hx => by
    obtain ⟨y, hy, rfl⟩ := List.mem_map.mp hx
    exact lo1_let (isL_of (h y hy))⟩
/-- a drawn rule -/
theorem e_rule (c : Int) (Ω : Om) : ∃ r, F__law_rule [.int c] Ω = .ok (encR r) Ω ∧ okR r = true := by
  obtain ⟨way, w1, w2⟩ := e_mix c 9923 6 Ω (by omega) (by omega)
  have s1 : dAsg c__law_rule_1 (gN 1) [.val (.int c), .un, .un, .un, .un] Ω = .nx [.val (.int c), .val (.lst (signsL.map fun c => .str [c])), .un, .un, .un] Ω := asg_ok (e_signs _ _ (by simp)) rfl
  have s2 : dAsg (dCall F__law_mix (dCons (dVar 0) (dCons (dC (.int 9923)) (dCons (dC (.int 6)) dNil)))) (gN 2) [.val (.int c), .val (.lst (signsL.map fun c => .str [c])), .un, .un, .un] Ω = .nx [.val (.int c), .val (.lst (signsL.map fun c => .str [c])), .val (.int (way : Int)), .un, .un] Ω := asg_ok (call_ok rfl w1) rfl
  have tst : ∀ k : Int, dTest (dOp fEq (dVar 2) (dC (.int k))) [.val (.int c), .val (.lst (signsL.map fun c => .str [c])), .val (.int (way : Int)), .un, .un] Ω = .ok (decide ((way : Int) = k)) Ω := fun k => test_ok (op_ok rfl rfl (fEq_int _ _))
  by_cases c0 : (way : Int) = 0
  · obtain ⟨r1, a1, a2⟩ := e_mix c 9907 6 Ω (by omega) (by omega)
    obtain ⟨l1, b1, b2, b3⟩ := e_letters c (1 + r1) Ω (by omega)
    have e : ((1 + r1 : Nat) : Int) = 1 + (r1 : Int) := by omega
    rw [e] at b1
    obtain ⟨r2, a3, a4⟩ := e_mix c 9901 4 Ω (by omega) (by omega)
    obtain ⟨d2, c1, w, rfl, c3, c4, c5⟩ := pick_tup (ds := [.str [97], .str [116, 101, 104], .str [116, 104, 101], .str (l1.map PyProof.Rows.lo1)]) (P := smB 1 6) (r := r2) (by
      intro d hd
      simp only [List.mem_cons, List.not_mem_nil, or_false] at hd
      rcases hd with rfl | rfl | rfl | rfl
      · exact ⟨_, rfl, by simp, by simp, by decide⟩
      · exact ⟨_, rfl, by simp, by simp, by decide⟩
      · exact ⟨_, rfl, by simp, by simp, by decide⟩
      · exact smB_lower (by omega) (by omega) b3) (by simp; omega)
    obtain ⟨l3, d1, d2, d3⟩ := e_letters (c + 1) 6 Ω (by omega)
    obtain ⟨r4, a7, a8⟩ := e_mix c 9887 4 Ω (by omega) (by omega)
    obtain ⟨d4, f1, m, rfl, f3, f4, f5⟩ := pick_tup (ds := [.str [], .str [97], .str [116, 104, 101], .str (l3.map PyProof.Rows.lo1)]) (P := smB 0 6) (r := r4) (by
      intro d hd
      simp only [List.mem_cons, List.not_mem_nil, or_false] at hd
      rcases hd with rfl | rfl | rfl | rfl
      · exact ⟨_, rfl, by simp, by simp, by decide⟩
      · exact ⟨_, rfl, by simp, by simp, by decide⟩
      · exact ⟨_, rfl, by simp, by simp, by decide⟩
      · exact smB_lower (by omega) (by omega) d3) (by simp; omega)
    refine ⟨.word w m, ?_, ?_⟩
    · refine run_rt rfl (seq_nx s1 (seq_nx s2 (seq_rt (ifS_t ((tst 0).trans (by rw [decide_eq_true c0])) ?_))))
      refine seq_nx (asg_ok (op_ok (tup_ok (cons_ok rfl (cons_ok rfl (cons_ok rfl (cons_ok (un_ok (call_ok (cons_ok rfl (cons_ok (op_ok rfl (call_ok rfl a1) rfl) rfl)) b1) rfl) rfl))))) (call_ok rfl a3) c1) rfl) ?_
      exact ret_ok (tup_ok (cons_ok rfl (cons_ok rfl (cons_ok (op_ok (tup_ok (cons_ok rfl (cons_ok rfl (cons_ok rfl (cons_ok (un_ok (call_ok (cons_ok rfl (cons_ok rfl rfl)) d1) rfl) rfl))))) (call_ok rfl a7) f1) rfl))))
    · show (decide (1 ≤ w.length) && decide (w.length ≤ 6) && w.all isSm && decide (m.length ≤ 6) && m.all isSm) = true
      rw [decide_eq_true c3, decide_eq_true c4, decide_eq_true f4, c5, f5] <;> rfl
  by_cases c1 : (way : Int) = 1
  · obtain ⟨r1, a1, a2⟩ := e_mix c 9883 9 Ω (by omega) (by omega)
    refine ⟨.long (1 + r1), ?_, ?_⟩
    · refine run_rt rfl (seq_nx s1 (seq_nx s2 (seq_nx (ifS_f ((tst 0).trans (by rw [decide_eq_false c0])) rfl) (seq_rt (ifS_t ((tst 1).trans (by rw [decide_eq_true c1])) ?_)))))
      refine ret_ok ((tup_ok (cons_ok rfl (cons_ok (op_ok rfl (call_ok rfl a1) rfl) rfl))).trans ?_)
      have e : ((1 + r1 : Nat) : Int) = 1 + (r1 : Int) := by omega
      show Res.ok (D.tup [.str kLong, .int (1 + (r1 : Int))]) Ω = .ok (D.tup [.str kLong, .int ((1 + r1 : Nat) : Int)]) Ω
      rw [e]
    · show (decide (1 ≤ 1 + r1) && decide (1 + r1 ≤ 9)) = true
      rw [decide_eq_true (by omega), decide_eq_true (by omega)] <;> rfl
  by_cases c2 : (way : Int) = 2
  · obtain ⟨r1, a1, a2⟩ := e_mix c 9871 ((signsL.map fun c => D.str [c]).length : Nat) Ω (by omega) (by rw [List.length_map, signs_len]; omega)
    obtain ⟨d1, b1, x, rfl, b2⟩ := pick_lst (ds := signsL.map fun c => D.str [c]) (P := fun d => ∃ x, d = .str [x] ∧ okR (.sign x) = true) (r := r1) (by
      intro d hd
      obtain ⟨x, hx, rfl⟩ := List.mem_map.mp hd
      exact ⟨x, rfl, signs_ok x hx⟩) (by omega)
    obtain ⟨r2, a3, a4⟩ := e_mix c 9859 3 Ω (by omega) (by omega)
    obtain ⟨d2, b3, y, rfl, b4⟩ := pick_tup (ds := [.str [33], .str [46], .str [x]]) (P := fun d => ∃ x, d = .str [x] ∧ okR (.sign x) = true) (r := r2) (by
      intro d hd
      simp only [List.mem_cons, List.not_mem_nil, or_false] at hd
      rcases hd with rfl | rfl | rfl
      · exact ⟨33, rfl, by decide⟩
      · exact ⟨46, rfl, by decide⟩
      · exact ⟨x, rfl, b2⟩) (by simp; omega)
    refine ⟨.sign y, ?_, b4⟩
    refine run_rt rfl (seq_nx s1 (seq_nx s2 (seq_nx (ifS_f ((tst 0).trans (by rw [decide_eq_false c0])) rfl) (seq_nx (ifS_f ((tst 1).trans (by rw [decide_eq_false c1])) rfl) (seq_rt (ifS_t ((tst 2).trans (by rw [decide_eq_true c2])) ?_))))))
    exact ret_ok (tup_ok (cons_ok rfl (cons_ok (op_ok (tup_ok (cons_ok rfl (cons_ok rfl (cons_ok (op_ok rfl (call_ok (cons_ok rfl (cons_ok rfl (cons_ok (cb_ok rfl rfl) rfl))) a1) b1) rfl)))) (call_ok rfl a3) b3) rfl)))
  · have h3 : way = 3 ∨ way = 4 ∨ way = 5 := by omega
    have go : ∀ (j : Nat) (r : Rul), way = 3 + j → fIx (.tup [encR .twice, encR .blanks, encR .great]) (.int (j : Int)) = some (encR r) → F__law_rule [.int c] Ω = .ok (encR r) Ω := fun j r hj hr => by
      refine run_rt rfl (seq_nx s1 (seq_nx s2 (seq_nx (ifS_f ((tst 0).trans (by rw [decide_eq_false c0])) rfl) (seq_nx (ifS_f ((tst 1).trans (by rw [decide_eq_false c1])) rfl) (seq_nx (ifS_f ((tst 2).trans (by rw [decide_eq_false c2])) rfl) ?_)))))
      have e : fMinus (.int (way : Int)) (.int 3) = some (.int (j : Int)) := by
        show some (D.int ((way : Int) - 3)) = _
        congr 2
        omega
      exact ret_ok (op_ok rfl (op_ok rfl rfl e) hr)
    rcases h3 with h | h | h
    · exact ⟨.twice, go 0 _ h rfl, rfl⟩
    · exact ⟨.blanks, go 1 _ h rfl, rfl⟩
    · exact ⟨.great, go 2 _ h rfl, rfl⟩

/-- drawn rules: one to four, no two alike -/
theorem notIn_enc (r : Rul) (rs : List Rul) : fNotIn (encR r) (.tup (rs.map encR)) = some (.bl (!decide (r ∈ rs))) := by
  have e1 : (sh 8 (encR r) && (rs.map encR).all fun d => sh 8 d) = true := by
    rw [Bool.and_eq_true]
    refine ⟨by cases r <;> rfl, List.all_eq_true.mpr fun d hd => ?_⟩
    obtain ⟨a, _, rfl⟩ := List.mem_map.mp hd
    cases a <;> rfl
  have e2 : fIn (encR r) (.tup (rs.map encR)) = some (.bl ((rs.map encR).any fun z => deq z (encR r))) := by
    have e3 : fIn (encR r) (.tup (rs.map encR)) = if (sh 8 (encR r) && (rs.map encR).all fun d => sh 8 d) = true then some (.bl ((rs.map encR).any fun z => deq z (encR r))) else none := by cases r <;> rfl
    rw [e3, if_pos e1]
  have e4 : ((rs.map encR).any fun z => deq z (encR r)) = decide (r ∈ rs) := by
    rw [List.any_map]
    have e5 : ((fun z => deq z (encR r)) ∘ encR) = fun a => decide (a = r) := by funext a; exact deq_encR a r
    rw [e5]
    by_cases h : r ∈ rs
    · rw [decide_eq_true h]
      exact List.any_eq_true.mpr ⟨r, h, decide_eq_true rfl⟩
    · rw [decide_eq_false h]
      refine List.any_eq_false.mpr fun a ha => ?_
      rw [decide_eq_true_eq]
      intro z
      exact h (z ▸ ha)
  show (match fIn (encR r) (.tup (rs.map encR)) with | some (.bl b) => some (D.bl (!b)) | _ => none) = _
  rw [e2, e4]
structure RulesOk (rs : List Rul) : Prop where
  ne : 1 ≤ rs.length
  le : rs.length ≤ 4
  nd : rs.Nodup
  ok : ∀ r ∈ rs, okR r = true
theorem e_rules (c : Int) (Ω : Om) : ∃ rs : List Rul, F__law_rules [.int c] Ω = .ok (.tup (rs.map encR)) Ω ∧ RulesOk rs := by
  obtain ⟨n, w1, w2⟩ := e_mix c 9857 4 Ω (by omega) (by omega)
  obtain ⟨ρ', f1, rs, s2, s3, rfl, f2, f3, f4, f5⟩ : ∃ ρ', l__law_rules_2 [.val (.int c), .val (.tup []), .un, .un] Ω = .nx ρ' Ω ∧ ∃ (rs : List Rul) (s2 s3 : Slot), ρ' = [.val (.int c), .val (.tup (rs.map encR)), s2, s3] ∧ min 1 (rangeL 0 (1 + (n : Int))).length ≤ rs.length ∧ rs.length ≤ (rangeL 0 (1 + (n : Int))).length ∧ rs.Nodup ∧ ∀ r ∈ rs, okR r = true := by
    refine dFor_inv (fun i ρ => ∃ (rs : List Rul) (s2 s3 : Slot), ρ = [.val (.int c), .val (.tup (rs.map encR)), s2, s3] ∧ min 1 i ≤ rs.length ∧ rs.length ≤ i ∧ rs.Nodup ∧ ∀ r ∈ rs, okR r = true) (r1_ok (k := 1 + (n : Int)) (cons_ok (op_ok rfl (call_ok rfl w1) rfl) rfl) (by omega))
      ⟨[], .un, .un, rfl, by simp, by simp, List.nodup_nil, fun r hr => absurd hr (by simp)⟩ fun i x ρ hx hI => ?_
    obtain ⟨rs, s2, s3, rfl, h1, h2, h3, h4⟩ := hI
    obtain ⟨rfl, hi⟩ := rangeL_get hx
    obtain ⟨r, a1, a2⟩ := e_rule (c + 19 * (0 + (i : Int))) Ω
    have st : dAsg (dCall F__law_rule (dCons (dOp fPlus (dVar 0) (dOp fMul (dC (.int 19)) (dVar 2))) dNil)) (gN 3) [.val (.int c), .val (.tup (rs.map encR)), .val (.int (0 + (i : Int))), s3] Ω = .nx [.val (.int c), .val (.tup (rs.map encR)), .val (.int (0 + (i : Int))), .val (encR r)] Ω :=
      asg_ok (call_ok (cons_ok (op_ok rfl (op_ok rfl rfl (fMul_int (by omega))) rfl) rfl) a1) rfl
    by_cases hm : r ∈ rs
    · have tn : dTest (dOp fNotIn (dVar 3) (dVar 1)) [.val (.int c), .val (.tup (rs.map encR)), .val (.int (0 + (i : Int))), .val (encR r)] Ω = .ok false Ω := test_ok (op_ok rfl rfl (by rw [notIn_enc, decide_eq_true hm] <;> rfl))
      refine ⟨_, _, rfl, seq_nx st (ifS_f tn rfl), rs, _, _, rfl, ?_, by omega, h3, h4⟩
      have : 0 < rs.length := List.length_pos_of_mem hm
      omega
    · have tn : dTest (dOp fNotIn (dVar 3) (dVar 1)) [.val (.int c), .val (.tup (rs.map encR)), .val (.int (0 + (i : Int))), .val (encR r)] Ω = .ok true Ω := test_ok (op_ok rfl rfl (by rw [notIn_enc, decide_eq_false hm] <;> rfl))
      refine ⟨_, _, rfl, seq_nx st (ifS_t tn (asg_ok (op_ok rfl (tup_ok (cons_ok rfl rfl)) (fPlus_tup (by rw [List.length_map, List.length_singleton]; unfold lim; omega))) rfl)), rs ++ [r], _, _, by rw [List.map_append] <;> rfl, by simp <;> omega, by simp <;> omega, ?_, ?_⟩
      · rw [List.nodup_append]
        refine ⟨h3, by simp, fun a ha b hb e => ?_⟩
        rw [List.mem_singleton] at hb
        rw [hb] at e
        exact hm (e ▸ ha)
      · intro a ha
        rcases List.mem_append.mp ha with ha | ha
        · exact h4 a ha
        · rw [List.mem_singleton.mp ha]
          exact a2
  rw [rangeL_len] at f2 f3
  refine ⟨rs, run_rt rfl (seq_nx (asg_ok rfl rfl) (seq_nx f1 (ret_ok rfl))), by omega, by omega, f4, f5⟩

/-! ### deep equality of data with itself; one sheet told a deed -/
mutual
theorem eqv_self : ∀ (n : Nat) (d : D), sh n d = true → PyData.eqv (toP d) (toP d) = true
  | _, .non, _ => by simp [toP, PyData.eqv]
  | _, .bl b, _ => by simp [toP, PyData.eqv]
  | _, .int i, _ => by simp [toP, PyData.eqv]
  | _, .str l, _ => by simp [toP, PyData.eqv]
  | n + 1, .tup ds, h => by
    have h : (ds.all fun d => sh n d) = true := h
    have := eqvs_self n ds h
    simp only [toP, PyData.eqv]
    exact this
  | n + 1, .lst ds, h => by
    have h : (ds.all fun d => sh n d) = true := h
    have := eqvs_self n ds h
    simp only [toP, PyData.eqv]
    exact this
  | 0, .tup _, h => by simp [sh] at h
  | 0, .lst _, h => by simp [sh] at h
  | 0, .obj _, h => by simp [sh] at h
  | _ + 1, .obj _, h => by simp [sh] at h
  | 0, .scr _, h => by simp [sh] at h
  | _ + 1, .scr _, h => by simp [sh] at h
theorem eqvs_self : ∀ (n : Nat) (ds : List D), (ds.all fun d => sh n d) = true → PyData.eqvAll (toPs ds) (toPs ds) = true
  | _, [], _ => by simp [toPs, PyData.eqvAll]
  | n, d :: ds, h => by
    simp only [List.all_cons, Bool.and_eq_true] at h
    have h1 := eqv_self n d h.1
    have h2 := eqvs_self n ds h.2
    simp only [toPs, PyData.eqvAll, h1, h2] <;> rfl
end
theorem fNe_self {d : D} (h : sh 8 d = true) : fNe d d = some (.bl false) := by
  show (if (sh 8 d && sh 8 d) = true then some (D.bl (!deq d d)) else none) = _
  rw [h]
  show some (D.bl (!PyData.eqv (toP d) (toP d))) = _
  rw [eqv_self 8 d h] <;> rfl
theorem fEq_self {d : D} (h : sh 8 d = true) : fEq d d = some (.bl true) := by
  show (if (sh 8 d && sh 8 d) = true then some (D.bl (deq d d)) else none) = _
  rw [h]
  show some (D.bl (PyData.eqv (toP d) (toP d))) = _
  rw [eqv_self 8 d h]

/-! ### the law k01: what is a rule -/
theorem par_okD {ρ : Env1} {Ω : Om} {i j : Nat} {das : DA} {x y : D} (h : das ρ Ω = .ok [x, y] Ω) : dPar i j das ρ Ω = .nx ((ρ.set i (.val x)).set j (.val y)) Ω := by
  unfold dPar
  rw [h] <;> rfl
theorem vD {ρ : Env1} {Ω : Om} {i : Nat} {d : D} (h : ρ[i]? = some (.val d)) : dVar i ρ Ω = .ok d Ω := by unfold dVar; rw [h] <;> rfl
def both (d : D) (b : Bool) : Prop := ∀ Ω : Om, F_is_rule [d] Ω = .ok (.bl b) Ω ∧ F__law_is_rule [d] Ω = .ok (.bl b) Ω
theorem allM {α : Type} (b : α → Bool) : ∀ xs : List α, bools (xs.map fun x => D.bl (b x)) = some (xs.map b)
  | [] => rfl
  | x :: xs => by
    show (bools (xs.map fun x => D.bl (b x))).map (b x :: ·) = _
    rw [allM b xs] <;> rfl
theorem fAllM {α : Type} (b : α → Bool) (xs : List α) : fAll [.lst (xs.map fun x => D.bl (b x))] = some (.bl (xs.all b)) := by
  show (bools (xs.map fun x => D.bl (b x))).map (fun bs => D.bl (bs.all id)) = _
  rw [allM]
  show some (D.bl ((xs.map b).all id)) = _
  rw [List.all_map] <;> rfl
theorem lt1 (a b : Nat) : (([a] : List Nat) < [b]) ↔ a < b := by simp [List.cons_lt_cons_iff]
theorem leS (a b : Nat) (h : a ≤ b) : fLe (.str [a]) (.str [b]) = some (.bl true) := by
  show some (D.bl (!decide (([b] : List Nat) < [a]))) = _
  rw [decide_eq_false (by rw [lt1]; omega)] <;> rfl
theorem e_small (l : List Nat) (n : Nat) (Ω : Om) (h1 : n ≤ l.length) (h2 : l.length ≤ 6) (h3 : l.all isSm = true) : F_is_small_word [.str l, .int (n : Int)] Ω = .ok (.bl true) Ω ∧ F__law_is_small [.str l, .int (n : Int)] Ω = .ok (.bl true) Ω := by
  have sm : ∀ c ∈ l, isSm c = true := List.all_eq_true.mp h3
  constructor
  · have c : c_is_small_word_1 [.val (.str l), .val (.int (n : Int)), .un] Ω = .ok (.lst (l.map fun c => D.bl (decide (c ∈ sAz)))) Ω := by
      unfold c_is_small_word_1
      refine Eq.trans (dLc_filter (xs := l.map fun c => D.str [c]) (fun _ => true) (fun d => match d with | .str [c] => .bl (decide (c ∈ sAz)) | _ => .non) rfl (by rw [List.length_map]; unfold lim; omega) fun x hx => ?_) ?_
      · obtain ⟨c, hc, rfl⟩ := List.mem_map.mp hx
        exact ⟨[.val (.str l), .val (.int (n : Int)), .val (.str [c])], rfl, nxT_ok rfl, fun _ => nxE_ok (op_ok rfl rfl rfl)⟩
      · rw [show ((l.map fun c => D.str [c]).filter fun _ => true) = l.map fun c => D.str [c] from List.filter_eq_self.mpr fun _ _ => rfl, List.map_map] <;> rfl
    have al : (l.all fun c => decide (c ∈ sAz)) = true := List.all_eq_true.mpr fun c hc => decide_eq_true (mem_az.mpr (sm c hc))
    have fa := fAllM (fun c : Nat => decide (c ∈ sAz)) l
    rw [al] at fa
    exact run_rt rfl (ret_ok (andV_t (un_ok rfl rfl) (andV_t (chain_ok (x := .int (n : Int)) rfl (cb_ok (cons_ok rfl rfl) rfl) ((show fLe (.int (n : Int)) (.int (l.length : Nat)) = some (.bl (decide ((n : Int) ≤ (l.length : Nat)))) from rfl).trans (by rw [decide_eq_true (by omega)])) rfl ((show fLe (.int (l.length : Nat)) (.int 6) = some (.bl (decide (((l.length : Nat) : Int) ≤ 6))) from rfl).trans (by rw [decide_eq_true (by omega)]))) (cb_ok (cons_ok c rfl) fa))))
  · have c : c__law_is_small_1 [.val (.str l), .val (.int (n : Int)), .un] Ω = .ok (.lst []) Ω := by
      unfold c__law_is_small_1
      refine Eq.trans (dLc_filter (xs := l.map fun c => D.str [c]) (fun _ => false) id rfl (by rw [List.length_map]; unfold lim; omega) fun x hx => ?_) (by rw [show ((l.map fun c => D.str [c]).filter fun _ => false) = [] from List.filter_eq_nil_iff.mpr fun _ _ => by simp] <;> rfl)
      obtain ⟨c, hc, rfl⟩ := List.mem_map.mp hx
      have hs := sm c hc
      unfold isSm at hs
      simp only [Bool.and_eq_true, decide_eq_true_eq] at hs
      exact ⟨[.val (.str l), .val (.int (n : Int)), .val (.str [c])], rfl, nxT_ok (not_ok (b := true) (test_ok (chain_ok rfl rfl (leS 97 c hs.1) rfl (leS c 122 hs.2)))), fun h => by cases h⟩
    exact run_rt rfl (seq_nx (ifS_f (or_f (not_ok (b := true) (test_ok (un_ok rfl rfl))) (or_f (test_ok (op_ok (cb_ok (cons_ok rfl rfl) rfl) rfl ((show fLt (.int (l.length : Nat)) (.int (n : Int)) = some (.bl (decide (((l.length : Nat) : Int) < (n : Int)))) from rfl).trans (by rw [decide_eq_false (by omega)])))) (test_ok (op_ok (cb_ok (cons_ok rfl rfl) rfl) rfl ((show fGt (.int (l.length : Nat)) (.int 6) = some (.bl (decide ((6 : Int) < ((l.length : Nat) : Int)))) from rfl).trans (by rw [decide_eq_false (by omega)])))))) rfl) (ret_ok (op_ok c rfl rfl)))
def signsX : List Nat := (List.range 127).filter fun c => okR (.sign c)
theorem sign_X {c : Nat} (h : okR (.sign c) = true) : c ∈ signsX := by
  refine List.mem_filter.mpr ⟨List.mem_range.mpr ?_, h⟩
  unfold okR at h
  simp only [Bool.and_eq_true, decide_eq_true_eq] at h
  omega
theorem signsX_eq : signsX = [33, 34, 35, 36, 37, 38, 39, 40, 41, 42, 43, 44, 45, 46, 47, 48, 49, 50, 51, 52, 53, 54, 55, 56, 57, 58, 59, 60, 61, 62, 63, 64, 91, 92, 93, 94, 95, 96, 123, 124, 125, 126] := by decide +kernel
theorem good_sign {c : Nat} (h : okR (.sign c) = true) : both (.tup [.str kSign, .str [c]]) true := by
  have h := sign_X h
  rw [signsX_eq] at h
  simp only [List.mem_cons, List.not_mem_nil, or_false] at h
  rcases h with rfl | rfl | rfl | rfl | rfl | rfl | rfl | rfl | rfl | rfl | rfl | rfl | rfl | rfl | rfl | rfl | rfl | rfl | rfl | rfl | rfl | rfl | rfl | rfl | rfl | rfl | rfl | rfl | rfl | rfl | rfl | rfl | rfl | rfl | rfl | rfl | rfl | rfl | rfl | rfl | rfl | rfl <;> exact fun Ω => ⟨rfl, rfl⟩
theorem good_word {w m : List Nat} (h : okR (.word w m) = true) : both (.tup [.str kWord, .str w, .str m]) true := by
  unfold okR at h
  simp only [Bool.and_eq_true, decide_eq_true_eq] at h
  obtain ⟨⟨⟨⟨h1, h2⟩, h3⟩, h4⟩, h5⟩ := h
  intro Ω
  obtain ⟨a1, a2⟩ := e_small w 1 Ω h1 h2 h3
  obtain ⟨b1, b2⟩ := e_small m 0 Ω (Nat.zero_le _) h4 h5
  constructor
  · exact run_rt rfl (seq_nx (ifS_f (or_f (not_ok (b := true) (test_ok (un_ok rfl rfl))) (or_f (not_ok (b := true) (truth_ok rfl rfl)) (not_ok (b := true) (test_ok (un_ok (op_ok rfl rfl rfl) rfl))))) rfl)
      (seq_nx (par_okD (cons_ok (op_ok rfl rfl rfl) (cons_ok (sl_ok rfl (part_ok rfl) noP_ok rfl) rfl)))
      (seq_nx (ifS_f (test_ok (op_ok rfl (tup_ok (cons_ok rfl (cons_ok rfl (cons_ok rfl rfl)))) rfl)) rfl)
      (seq_rt (ifS_t (test_ok (op_ok rfl rfl rfl)) (ret_ok (andV_t (op_ok (cb_ok (cons_ok rfl rfl) rfl) rfl rfl) (andV_t (call_ok (cons_ok (op_ok rfl rfl rfl) (cons_ok rfl rfl)) a1) (call_ok (cons_ok (op_ok rfl rfl rfl) (cons_ok rfl rfl)) b1)))))))))
  · exact run_rt rfl (seq_nx (ifS_f (or_f (not_ok (b := true) (test_ok (un_ok rfl rfl))) (or_f (test_ok (op_ok rfl (tup_ok (xs := []) rfl) rfl)) (not_ok (b := true) (test_ok (un_ok (op_ok rfl rfl rfl) rfl))))) rfl)
      (seq_nx (ifS_f (test_ok (op_ok (op_ok rfl rfl rfl) (tup_ok (cons_ok rfl (cons_ok rfl (cons_ok rfl rfl)))) rfl)) rfl)
      (seq_rt (ifS_t (test_ok (op_ok (op_ok rfl rfl rfl) rfl rfl)) (ret_ok (andV_t (op_ok (cb_ok (cons_ok rfl rfl) rfl) rfl rfl) (andV_t (call_ok (cons_ok (op_ok rfl rfl rfl) (cons_ok rfl rfl)) a2) (call_ok (cons_ok (op_ok rfl rfl rfl) (cons_ok rfl rfl)) b2))))))))
theorem good {r : Rul} (h : okR r = true) : both (encR r) true := by
  cases r with
  | word w m => exact good_word h
  | sign c => exact good_sign h
  | long n =>
    unfold okR at h
    simp only [Bool.and_eq_true, decide_eq_true_eq] at h
    rcases (by omega : n = 1 ∨ n = 2 ∨ n = 3 ∨ n = 4 ∨ n = 5 ∨ n = 6 ∨ n = 7 ∨ n = 8 ∨ n = 9) with rfl | rfl | rfl | rfl | rfl | rfl | rfl | rfl | rfl <;> exact fun Ω => ⟨rfl, rfl⟩
  | twice => exact fun Ω => ⟨rfl, rfl⟩
  | blanks => exact fun Ω => ⟨rfl, rfl⟩
  | great => exact fun Ω => ⟨rfl, rfl⟩
/-- a rule, or none -/
def Thg (d : D) : Prop := (∃ r, d = encR r ∧ okR r = true) ∨ both d false
theorem thg_sign {c : Nat} (hc : c ∈ sAll) : Thg (.tup [.str kSign, .str [c]]) := by
  by_cases h : okR (.sign c) = true
  · exact .inl ⟨.sign c, rfl, h⟩
  · refine .inr ?_
    have hm : c ∈ sAll.filter fun c => !okR (.sign c) := List.mem_filter.mpr ⟨hc, by simpa using h⟩
    rw [show (sAll.filter fun c => !okR (.sign c)) = 32 :: (AZL ++ azL) by decide +kernel] at hm
    simp only [AZL, azL, List.cons_append, List.nil_append, List.mem_cons, List.not_mem_nil, or_false] at hm
    rcases hm with rfl | rfl | rfl | rfl | rfl | rfl | rfl | rfl | rfl | rfl | rfl | rfl | rfl | rfl | rfl | rfl | rfl | rfl | rfl | rfl | rfl | rfl | rfl | rfl | rfl | rfl | rfl | rfl | rfl | rfl | rfl | rfl | rfl | rfl | rfl | rfl | rfl | rfl | rfl | rfl | rfl | rfl | rfl | rfl | rfl | rfl | rfl | rfl | rfl | rfl | rfl | rfl | rfl <;> exact fun Ω => ⟨rfl, rfl⟩

/-! ### the law k01: rules together -/
def kS (l : List Nat) : L2.Key := .inr ⟨l.toArray⟩
def keysR : Rul → List L2.Key
  | .word w m => [kS kWord, kS w, kS m]
  | .long n => [kS kLong, .inl (n : Int)]
  | .sign c => [kS kSign, kS [c]]
  | .twice => [kS kTwice]
  | .blanks => [kS kBlanks]
  | .great => [kS kGreat]
def unK : L2.Key → D
  | .inl i => .int i
  | .inr x => .str x.cps.toList
theorem unK_R (r : Rul) : encR r = .tup ((keysR r).map unK) := by cases r <;> rfl
theorem keysR_inj {a b : Rul} (h : keysR a = keysR b) : a = b := encR_inj (by rw [unK_R, unK_R, h])
theorem rows_R : ∀ rs : List Rul, rowsD (rs.map encR) = some (rs.map keysR)
  | [] => rfl
  | r :: rs => by
    have e : tupD (encR r) = some (keysR r) := by cases r <;> rfl
    show (match tupD (encR r), rowsD (rs.map encR) with | some k, some r => some (k :: r) | _, _ => none) = _
    rw [e, rows_R rs] <;> rfl
theorem dd_le {α : Type} [DecidableEq α] : ∀ xs : List α, (dd xs).length ≤ xs.length
  | [] => Nat.le_refl _
  | x :: xs => by
    have ih := dd_le xs
    unfold dd
    split
    · rw [List.length_cons]
      omega
    · rw [List.length_cons, List.length_cons]
      omega
theorem dd_full {α : Type} [DecidableEq α] : ∀ xs : List α, (dd xs).length = xs.length ↔ xs.Nodup
  | [] => ⟨fun _ => List.nodup_nil, fun _ => rfl⟩
  | x :: xs => by
    have ih := dd_full xs
    have hle := dd_le xs
    unfold dd
    by_cases h : x ∈ xs
    · rw [if_pos h, List.length_cons]
      exact ⟨fun e => by omega, fun e => absurd h (List.nodup_cons.mp e).1⟩
    · rw [if_neg h, List.length_cons, List.length_cons, List.nodup_cons]
      exact ⟨fun e => ⟨h, ih.mp (by omega)⟩, fun e => by have := ih.mpr e.2; omega⟩
theorem len_R {rs : List Rul} (h : rs.length ≤ 4) : fLenSetM (.tup (rs.map encR)) = some (.int ((dd (rs.map keysR)).length : Nat)) := by
  show (match rowsD (rs.map encR) with | some L => if L.length ≤ 4 then some (D.int ((dd L).length : Nat)) else none | none => none) = _
  rw [rows_R]
  exact if_pos (by rw [List.length_map]; exact h)
theorem nodup_R (rs : List Rul) : (rs.map keysR).Nodup ↔ rs.Nodup := by
  rw [List.Nodup, List.pairwise_map]
  exact ⟨fun h => h.imp fun {a b} h e => h (by rw [e]), fun h => h.imp fun {a b} h e => h (keysR_inj e)⟩
/-- are_rules of a tuple, of which it is known item by item what is a rule -/
theorem are_cond (zs : List (D × Bool)) (Ω : Om) (h1 : 1 ≤ zs.length) (h4 : zs.length ≤ 4) (h : ∀ z ∈ zs, both z.1 z.2) :
    dOrT (dNotT (dTest (dUn (fIsi .tuple) (dVar 0)))) (dOrT (dNotT (dTest (dChain fLe fLe (dC (.int 1)) (dCB fLen (dCons (dVar 0) dNil)) (dC (.int 4))))) (dNotT (dTest (dCB fAll (dCons c_are_rules_1 dNil))))) [.val (.tup (zs.map fun z => z.1)), .un] Ω = .ok (!zs.all fun z => z.2) Ω := by
  have c : c_are_rules_1 [.val (.tup (zs.map fun z => z.1)), .un] Ω = .ok (.lst (zs.map fun z => D.bl z.2)) Ω := by
    unfold c_are_rules_1
    have go : ∀ (ys : List (D × Bool)) (ac : List D), (∀ z ∈ ys, both z.1 z.2) → lcN (gN 1) (nxT dYes) (nxE (dCall F_is_rule (dCons (dVar 1) dNil))) [.val (.tup (zs.map fun z => z.1)), .un] (ys.map fun z => z.1) ac Ω = .ok (ac ++ ys.map fun z => D.bl z.2) Ω := by
      intro ys
      induction ys with
      | nil =>
        intro ac _
        show Res.ok ac Ω = .ok (ac ++ []) Ω
        rw [List.append_nil]
      | cons y ys ih =>
        intro ac hy
        rw [List.map_cons]
        unfold lcN
        show ((nxT dYes) [.val (.tup (zs.map fun z => z.1)), .val y.1] Ω).bind _ = _
        show ((nxE (dCall F_is_rule (dCons (dVar 1) dNil))) [.val (.tup (zs.map fun z => z.1)), .val y.1] Ω).bind (fun v Ω2 => lcN (gN 1) (nxT dYes) (nxE (dCall F_is_rule (dCons (dVar 1) dNil))) [.val (.tup (zs.map fun z => z.1)), .un] (ys.map fun z => z.1) (ac ++ [v]) Ω2) = _
        rw [show (nxE (dCall F_is_rule (dCons (dVar 1) dNil))) [.val (.tup (zs.map fun z => z.1)), .val y.1] Ω = .ok (.bl y.2) Ω from nxE_ok (call_ok (cons_ok rfl rfl) (hy y List.mem_cons_self Ω).1)]
        show lcN _ _ _ _ (ys.map fun z => z.1) (ac ++ [D.bl y.2]) Ω = _
        rw [ih (ac ++ [D.bl y.2]) fun z hz => hy z (List.mem_cons_of_mem _ hz), List.append_assoc] <;> rfl
    unfold dLc
    show (Res.ok (zs.map fun z => z.1) Ω).bind _ = _
    show (if (zs.map fun z => z.1).length ≤ lim then (lcN (gN 1) (nxT dYes) (nxE (dCall F_is_rule (dCons (dVar 1) dNil))) (wipeD [.val (.tup (zs.map fun z => z.1)), .un] [1]) (zs.map fun z => z.1) [] Ω).bind (fun ys Ω2 => Res.ok (D.lst ys) Ω2) else .bad) = _
    rw [if_pos (by rw [List.length_map]; unfold lim; omega)]
    show (lcN (gN 1) (nxT dYes) (nxE (dCall F_is_rule (dCons (dVar 1) dNil))) [.val (.tup (zs.map fun z => z.1)), .un] (zs.map fun z => z.1) [] Ω).bind _ = _
    rw [go zs [] h] <;> rfl
  have ln : dCB fLen (dCons (dVar 0) dNil) [.val (.tup (zs.map fun z => z.1)), .un] Ω = .ok (.int (zs.length : Nat)) Ω := cb_ok (cons_ok rfl rfl) (by show some (D.int ((zs.map fun z => z.1).length : Nat)) = _; rw [List.length_map])
  exact or_f (not_ok (b := true) (test_ok (un_ok rfl rfl))) (or_f (not_ok (b := true) (test_ok (chain_ok (x := .int 1) rfl ln ((show fLe (.int 1) (.int (zs.length : Nat)) = some (.bl (decide ((1 : Int) ≤ (zs.length : Nat)))) from rfl).trans (by rw [decide_eq_true (by omega)])) rfl ((show fLe (.int (zs.length : Nat)) (.int 4) = some (.bl (decide (((zs.length : Nat) : Int) ≤ 4))) from rfl).trans (by rw [decide_eq_true (by omega)]))))) (not_ok (test_ok (cb_ok (cons_ok c rfl) (fAllM (fun z : D × Bool => z.2) zs)))))
theorem are_bad {zs : List (D × Bool)} (Ω : Om) (h1 : 1 ≤ zs.length) (h4 : zs.length ≤ 4) (h : ∀ z ∈ zs, both z.1 z.2) (hb : (zs.all fun z => z.2) = false) : F_are_rules [.tup (zs.map fun z => z.1)] Ω = .ok (.bl false) Ω := by
  have c := are_cond zs Ω h1 h4 h
  rw [hb] at c
  exact run_rt rfl (seq_rt (ifS_t c (ret_ok rfl)))
theorem are_good {rs : List Rul} (Ω : Om) (h1 : 1 ≤ rs.length) (h4 : rs.length ≤ 4) (ok : ∀ r ∈ rs, okR r = true) : F_are_rules [.tup (rs.map encR)] Ω = .ok (.bl (decide rs.Nodup)) Ω := by
  have c := are_cond (rs.map fun r => (encR r, true)) Ω (by rw [List.length_map]; exact h1) (by rw [List.length_map]; exact h4) (fun z hz => by
    obtain ⟨r, hr, rfl⟩ := List.mem_map.mp hz
    exact good (ok r hr))
  rw [List.map_map, show ((fun z : D × Bool => z.1) ∘ fun r => (encR r, true)) = encR from rfl, show ((rs.map fun r => (encR r, true)).all fun z => z.2) = true by rw [List.all_map]; exact List.all_eq_true.mpr fun _ _ => rfl] at c
  refine run_rt rfl (seq_nx (ifS_f c rfl) (ret_ok (op_ok (un_ok rfl (len_R h4)) (cb_ok (cons_ok rfl rfl) rfl) ((fEq_int _ _).trans ?_))))
  rw [List.length_map]
  refine congrArg (fun b => some (D.bl b)) (decide_eq_decide.mpr ?_)
  rw [← nodup_R, ← dd_full, List.length_map]
  omega
theorem are_long (ds : List D) (Ω : Om) (h : 4 < ds.length) : F_are_rules [.tup ds] Ω = .ok (.bl false) Ω := by
  have ln : dCB fLen (dCons (dVar 0) dNil) [.val (.tup ds), .un] Ω = .ok (.int (ds.length : Nat)) Ω := cb_ok (cons_ok rfl rfl) rfl
  exact run_rt rfl (seq_rt (ifS_t (or_f (not_ok (b := true) (test_ok (un_ok rfl rfl))) (or_t (not_ok (b := false) (test_ok (chain_ok (x := .int 1) rfl ln ((show fLe (.int 1) (.int (ds.length : Nat)) = some (.bl (decide ((1 : Int) ≤ (ds.length : Nat)))) from rfl).trans (by rw [decide_eq_true (by omega)])) rfl ((show fLe (.int (ds.length : Nat)) (.int 4) = some (.bl (decide (((ds.length : Nat) : Int) ≤ 4))) from rfl).trans (by rw [decide_eq_false (by omega)]))))))) (ret_ok rfl)))
/-! the strange things -/
theorem th_of {d : D} (h : both d false) : Thg d := .inr h
theorem th_ok (r : Rul) (h : okR r = true) : Thg (encR r) := .inl ⟨r, rfl, h⟩
theorem th_app {xs ys : List D} (h1 : ∀ d ∈ xs, Thg d) (h2 : ∀ d ∈ ys, Thg d) : ∀ d ∈ xs ++ ys, Thg d := fun d hd => (List.mem_append.mp hd).elim (h1 d) (h2 d)
def st1 : List D := [.non, .int 5, .str kTwice, .tup [], .tup [.str kTwice, .int 1], .tup [.str kBlanks, .str []]]
def st2 : List D := [.tup [.str kGreat, .non], .tup [.int 5], .tup [.non, .str [97]], .lst [.str kTwice], .tup [.str [84, 119, 105, 99, 101]]]
def st3 : List D := [.tup [.str kWord, .str [116, 101, 104]], .tup [.str kWord, .str [], .str [97]], .tup [.str kWord, .str [97, 98, 99, 100, 101, 102, 103], .str [97]]]
def st4 : List D := [.tup [.str kWord, .str [116, 101, 104], .str [97, 98, 99, 100, 101, 102, 103]], .tup [.str kWord, .int 5, .str [97]]]
def st5 : List D := [.tup [.str kWord, .str [116, 101, 104], .non], .tup [.str kWord, .str [84, 101, 104], .str [97]], .tup [.str kWord, .str [116, 101, 32, 104], .str [97]]]
def st6 : List D := [.tup [.str kWord, .str [116, 101, 104], .str []], .tup [.str kWord, .str [116], .str [116, 104], .str []]]
def st7 : List D := [.tup [.str kLong, .int 0], .tup [.str kLong, .int 1], .tup [.str kLong, .int 9], .tup [.str kLong, .int 10]]
def st8 : List D := [.tup [.str kLong, .bl true], .tup [.str kLong, .str [51]], .tup [.str kLong], .tup [.str kLong, .int 3, .int 3]]
def st9 : List D := [.tup [.str kSign, .str []], .tup [.str kSign, .str [33, 33]], .tup [.str kSign, .str [32]], .tup [.str kSign, .non]]
def st10 : List D := [.tup [.str kSign, .str [33]], .tup [.str kSign], .tup [.str kSign, .str [97], .str [98]], .tup [.str [115, 105, 103, 104], .str [33]]]
theorem st_th : ∀ d ∈ st1 ++ st2 ++ st3 ++ st4 ++ st5 ++ st6 ++ st7 ++ st8 ++ st9 ++ st10, Thg d := by
  refine th_app (th_app (th_app (th_app (th_app (th_app (th_app (th_app (th_app ?_ ?_) ?_) ?_) ?_) ?_) ?_) ?_) ?_) ?_
  all_goals
    intro d hd
    simp only [st1, st2, st3, st4, st5, st6, st7, st8, st9, st10, List.mem_cons, List.not_mem_nil, or_false] at hd
  · rcases hd with rfl | rfl | rfl | rfl | rfl | rfl <;> exact th_of fun Ω => ⟨rfl, rfl⟩
  · rcases hd with rfl | rfl | rfl | rfl | rfl <;> exact th_of fun Ω => ⟨rfl, rfl⟩
  · rcases hd with rfl | rfl | rfl <;> exact th_of fun Ω => ⟨rfl, rfl⟩
  · rcases hd with rfl | rfl <;> exact th_of fun Ω => ⟨rfl, rfl⟩
  · rcases hd with rfl | rfl | rfl <;> exact th_of fun Ω => ⟨rfl, rfl⟩
  · rcases hd with rfl | rfl
    · exact th_ok (.word [116, 101, 104] []) (by decide +kernel)
    · exact th_of fun Ω => ⟨rfl, rfl⟩
  · rcases hd with rfl | rfl | rfl | rfl
    · exact th_of fun Ω => ⟨rfl, rfl⟩
    · exact th_ok (.long 1) (by decide +kernel)
    · exact th_ok (.long 9) (by decide +kernel)
    · exact th_of fun Ω => ⟨rfl, rfl⟩
  · rcases hd with rfl | rfl | rfl | rfl <;> exact th_of fun Ω => ⟨rfl, rfl⟩
  · rcases hd with rfl | rfl | rfl | rfl <;> exact th_of fun Ω => ⟨rfl, rfl⟩
  · rcases hd with rfl | rfl | rfl | rfl
    · exact th_ok (.sign 33) (by decide +kernel)
    · exact th_of fun Ω => ⟨rfl, rfl⟩
    · exact th_of fun Ω => ⟨rfl, rfl⟩
    · exact th_of fun Ω => ⟨rfl, rfl⟩
theorem e_strange (c : Int) (Ω : Om) : ∃ ds, F__law_strange [.int c] Ω = .ok (.lst ds) Ω ∧ ∀ d ∈ ds, Thg d := by
  obtain ⟨ys, e1, e2, e3⟩ : ∃ ys, c__law_strange_1 [.val (.int c), .val (.str sAll), .val (.lst (st1 ++ st2 ++ st3 ++ st4 ++ st5 ++ st6 ++ st7 ++ st8 ++ st9 ++ st10)), .un] Ω = .ok (.lst ys) Ω ∧ ys.length = (rangeL 0 12).length ∧ ∀ y ∈ ys, Thg y := by
    refine dLc_ex Thg (r1_ok (k := 12) rfl (by omega)) (by rw [rangeL_len]; unfold lim; omega) fun x hx => ?_
    obtain ⟨i, rfl, hi⟩ := rangeL_mem hx
    obtain ⟨r, h1, h2⟩ := e_mix (c + (0 + (i : Int))) 9817 (94 : Nat) Ω (by omega) (by omega)
    obtain ⟨g, g1, g2⟩ := pick_str (l := sAll) (r := r) (by rw [sAll_len]; omega)
    exact ⟨[.val (.int c), .val (.str sAll), .val (.lst (st1 ++ st2 ++ st3 ++ st4 ++ st5 ++ st6 ++ st7 ++ st8 ++ st9 ++ st10)), .val (.int (0 + (i : Int)))], _, rfl, rfl, nxE_ok (tup_ok (cons_ok rfl (cons_ok (op_ok rfl (call_ok (cons_ok (op_ok rfl rfl fPlus_int) (cons_ok rfl (cons_ok (cb_ok (cons_ok rfl rfl) rfl) rfl))) h1) g1) rfl))), thg_sign g2⟩
  rw [rangeL_len] at e2
  have e2 : ys.length = 12 := e2
  refine ⟨st1 ++ st2 ++ st3 ++ st4 ++ st5 ++ st6 ++ st7 ++ st8 ++ st9 ++ st10 ++ ys, ?_, th_app st_th e3⟩
  have pl : ∀ (xs zs : List D), xs.length + zs.length ≤ 100 → fPlus (.lst xs) (.lst zs) = some (.lst (xs ++ zs)) := fun xs zs h => fPlus_lst (Nat.le_trans h (by unfold lim; decide))
  have nil1 : ∀ ρ : Env1, dTup dNil ρ Ω = .ok (.tup []) Ω := fun ρ => tup_ok (xs := []) rfl
  refine run_rt rfl (seq_nx (asg_ok (call_ok rfl rfl) rfl) ?_)
  refine seq_nx (ρ1 := [.val (.int c), .val (.str sAll), .val (.lst st1), .un]) rfl ?_
  refine seq_nx (ρ1 := [.val (.int c), .val (.str sAll), .val (.lst (st1 ++ st2)), .un]) (asg_ok (op_ok rfl (y := .lst st2) rfl (pl _ _ (by decide))) rfl) ?_
  refine seq_nx (ρ1 := [.val (.int c), .val (.str sAll), .val (.lst (st1 ++ st2 ++ st3)), .un]) (asg_ok (op_ok rfl (y := .lst st3) rfl (pl _ _ (by decide))) rfl) ?_
  refine seq_nx (ρ1 := [.val (.int c), .val (.str sAll), .val (.lst (st1 ++ st2 ++ st3 ++ st4)), .un]) (asg_ok (op_ok rfl (y := .lst st4) rfl (pl _ _ (by decide))) rfl) ?_
  refine seq_nx (ρ1 := [.val (.int c), .val (.str sAll), .val (.lst (st1 ++ st2 ++ st3 ++ st4 ++ st5)), .un]) (asg_ok (op_ok rfl (y := .lst st5) rfl (pl _ _ (by decide))) rfl) ?_
  refine seq_nx (ρ1 := [.val (.int c), .val (.str sAll), .val (.lst (st1 ++ st2 ++ st3 ++ st4 ++ st5 ++ st6)), .un]) (asg_ok (op_ok rfl (y := .lst st6) rfl (pl _ _ (by decide))) rfl) ?_
  refine seq_nx (ρ1 := [.val (.int c), .val (.str sAll), .val (.lst (st1 ++ st2 ++ st3 ++ st4 ++ st5 ++ st6 ++ st7)), .un]) (asg_ok (op_ok rfl (y := .lst st7) rfl (pl _ _ (by decide))) rfl) ?_
  refine seq_nx (ρ1 := [.val (.int c), .val (.str sAll), .val (.lst (st1 ++ st2 ++ st3 ++ st4 ++ st5 ++ st6 ++ st7 ++ st8)), .un]) (asg_ok (op_ok rfl (y := .lst st8) rfl (pl _ _ (by decide))) rfl) ?_
  refine seq_nx (ρ1 := [.val (.int c), .val (.str sAll), .val (.lst (st1 ++ st2 ++ st3 ++ st4 ++ st5 ++ st6 ++ st7 ++ st8 ++ st9)), .un]) (asg_ok (op_ok rfl (y := .lst st9) rfl (pl _ _ (by decide))) rfl) ?_
  refine seq_nx (ρ1 := [.val (.int c), .val (.str sAll), .val (.lst (st1 ++ st2 ++ st3 ++ st4 ++ st5 ++ st6 ++ st7 ++ st8 ++ st9 ++ st10)), .un]) (asg_ok (op_ok rfl (y := .lst st10) rfl (pl _ _ (by decide))) rfl) ?_
  exact ret_ok (op_ok rfl e1 (pl _ _ (by rw [e2]; decide)))

/-! ### the law k01: whole -/
theorem cut_tk {α : Type} {xs : List α} {a : Nat} (h : a ≤ xs.length) : cut xs none (some (a : Int)) = xs.take a := by
  unfold cut
  rw [HT.sIx_nat, HT.sIx_none, List.drop_zero, Nat.sub_zero, Nat.min_eq_left h]
theorem cut_dr {α : Type} {xs : List α} {a : Nat} (h : a ≤ xs.length) : cut xs (some (a : Int)) none = xs.drop a := by
  unfold cut
  rw [HT.sIx_nat, HT.sIx_none, Nat.min_eq_left h, List.take_of_length_le (by rw [List.length_drop]; exact Nat.le_refl _)]
theorem encR_s8 (r : Rul) : sh 8 (encR r) = true := by cases r <;> rfl
theorem sl_tk {rs : List Rul} {a : Nat} (h : a ≤ rs.length) : fSl (.tup (rs.map encR)) none (some (a : Int)) = some (.tup ((rs.take a).map encR)) := by
  show some (D.tup (cut (rs.map encR) none (some (a : Int)))) = _
  rw [cut_tk (by rw [List.length_map]; exact h), List.map_take]
theorem sl_dr {rs : List Rul} {a : Nat} (h : a ≤ rs.length) : fSl (.tup (rs.map encR)) (some (a : Int)) none = some (.tup ((rs.drop a).map encR)) := by
  show some (D.tup (cut (rs.map encR) (some (a : Int)) none)) = _
  rw [cut_dr (by rw [List.length_map]; exact h), List.map_drop]
theorem eq_nil (ss : List Rul) : fEq (.lst (ss.map encR)) (.lst []) = some (.bl ss.isEmpty) := by
  have e : sh 8 (.lst (ss.map encR)) = true := by
    show ((ss.map encR).all fun d => sh 7 d) = true
    refine List.all_eq_true.mpr fun d hd => ?_
    obtain ⟨r, _, rfl⟩ := List.mem_map.mp hd
    exact encR_sh r
  show (if (sh 8 (.lst (ss.map encR)) && sh 8 (.lst [])) = true then some (D.bl (deq (.lst (ss.map encR)) (.lst []))) else none) = _
  rw [e]
  cases ss <;> rfl
/-- one is put in the place of another -/
theorem put_nd {rs : List Rul} {a : Nat} (hn : rs.Nodup) (r : Rul) : (rs.take a ++ r :: rs.drop (a + 1)).Nodup ↔ r ∉ rs.take a ++ rs.drop (a + 1) := by
  have pm : (rs.take a ++ r :: rs.drop (a + 1)).Perm (r :: (rs.take a ++ rs.drop (a + 1))) := List.perm_middle
  have sub : (rs.take a ++ rs.drop (a + 1)).Nodup := by
    rw [← List.eraseIdx_eq_take_drop_succ]
    exact hn.sublist (List.eraseIdx_sublist _ _)
  rw [pm.nodup_iff, List.nodup_cons]
  exact ⟨fun h => h.1, fun h => ⟨h, sub⟩⟩
abbrev V01 (ns : List Int) (k : Nat) (c : Int) (rs : List Rul) (a : Nat) (s5 s6 s7 s8 s9 s10 s11 s12 : Slot) : Env1 := [.val (.scr ns), .val (.int (k : Int)), .val (.int c), .val (.tup (rs.map encR)), .val (.int (a : Int)), s5, s6, s7, s8, s9, s10, s11, s12]
theorem thing_ok {ns : List Int} {k : Nat} {c : Int} {rs : List Rul} {a : Nat} {Ω : Om} (R : RulesOk rs) (ha : a < rs.length) {d : D} (hd : Thg d) (s6 s7 s8 s9 s10 s11 s12 : Slot) :
    ∃ (t6 t7 t8 t9 : Slot), b_law_2 (V01 ns k c rs a (.val d) s6 s7 s8 s9 s10 s11 s12) Ω = .nx (V01 ns k c rs a (.val d) t6 t7 t8 t9 s10 s11 s12) Ω := by
  have hle := R.le
  have lt : ((rs.take a).map encR).length = a := by rw [List.length_map, List.length_take]; omega
  have ld : ((rs.drop (a + 1)).map encR).length = rs.length - (a + 1) := by rw [List.length_map, List.length_drop]
  have z : ∀ n : Nat, n ≤ 100 → n ≤ lim := fun n h => Nat.le_trans h (by unfold lim; decide)
  have p1 : fPlus (.tup ((rs.take a).map encR)) (.tup [d]) = some (.tup ((rs.take a).map encR ++ [d])) := fPlus_tup (z _ (by rw [lt]; show a + 1 ≤ 100; omega))
  have p2 : fPlus (.tup ((rs.take a).map encR ++ [d])) (.tup ((rs.drop (a + 1)).map encR)) = some (.tup ((rs.take a).map encR ++ d :: (rs.drop (a + 1)).map encR)) := (fPlus_tup (z _ (by rw [List.length_append, lt, ld]; show a + 1 + _ ≤ 100; omega))).trans (by rw [List.append_assoc] <;> rfl)
  have p3 : fPlus (.tup ((rs.take a).map encR)) (.tup ((rs.drop (a + 1)).map encR)) = some (.tup ((rs.take a ++ rs.drop (a + 1)).map encR)) := (fPlus_tup (z _ (by rw [lt, ld]; omega))).trans (by rw [List.map_append])
  have w6 : dAsg (dOp fPlus (dOp fPlus (dSl (dVar 3) dNoP (dPart (dVar 4))) (dTup (dCons (dVar 5) dNil))) (dSl (dVar 3) (dPart (dOp fPlus (dVar 4) (dC (.int 1)))) dNoP)) (gN 6) (V01 ns k c rs a (.val d) s6 s7 s8 s9 s10 s11 s12) Ω = .nx (V01 ns k c rs a (.val d) (.val (.tup ((rs.take a).map encR ++ d :: (rs.drop (a + 1)).map encR))) s7 s8 s9 s10 s11 s12) Ω :=
    asg_ok (op_ok (op_ok (sl_ok rfl noP_ok (part_ok rfl) (sl_tk (Nat.le_of_lt ha))) (tup_ok (cons_ok rfl rfl)) p1) (sl_ok rfl (part_ok (op_ok rfl rfl (fPlus_nat a 1))) noP_ok (sl_dr ha)) p2) rfl
  have w7 : ∀ t6, dAsg (dOp fPlus (dSl (dVar 3) dNoP (dPart (dVar 4))) (dSl (dVar 3) (dPart (dOp fPlus (dVar 4) (dC (.int 1)))) dNoP)) (gN 7) (V01 ns k c rs a (.val d) t6 s7 s8 s9 s10 s11 s12) Ω = .nx (V01 ns k c rs a (.val d) t6 (.val (.tup ((rs.take a ++ rs.drop (a + 1)).map encR))) s8 s9 s10 s11 s12) Ω := fun t6 =>
    asg_ok (op_ok (sl_ok rfl noP_ok (part_ok rfl) (sl_tk (Nat.le_of_lt ha))) (sl_ok rfl (part_ok (op_ok rfl rfl (fPlus_nat a 1))) noP_ok (sl_dr ha)) p3) rfl
  have len1 : (rs.take a ++ rs.drop (a + 1)).length + 1 = rs.length := by
    rw [List.length_append, List.length_take, List.length_drop]
    omega
  have fin : ∀ b : Bool, ∀ t6 t7 : Slot, dIfS (dOrT (dAndT (dTest (dOp fIsNot (dVar 9) (dC (.bl true)))) (dTruth (dVar 8))) (dAndT (dTest (dOp fIsNot (dVar 9) (dC (.bl false)))) (dNotT (dTruth (dVar 8))))) (dRet (dC (.bl false))) dNext (V01 ns k c rs a (.val d) t6 t7 (.val (.bl b)) (.val (.bl b)) s10 s11 s12) Ω = .nx (V01 ns k c rs a (.val d) t6 t7 (.val (.bl b)) (.val (.bl b)) s10 s11 s12) Ω := fun b t6 t7 => by cases b <;> rfl
  rcases hd with ⟨r, rfl, hr⟩ | hb
  · have e6 : (rs.take a).map encR ++ encR r :: (rs.drop (a + 1)).map encR = (rs.take a ++ r :: rs.drop (a + 1)).map encR := by rw [List.map_append, List.map_cons]
    have ok2 : ∀ s ∈ rs.take a ++ r :: rs.drop (a + 1), okR s = true := fun s hs => by
      rcases List.mem_append.mp hs with h | h
      · exact R.ok s (List.mem_of_mem_take h)
      · rcases List.mem_cons.mp h with rfl | h
        · exact hr
        · exact R.ok s (List.mem_of_mem_drop h)
    have len2 : (rs.take a ++ r :: rs.drop (a + 1)).length = rs.length := by
      rw [List.length_append, List.length_cons, List.length_take, List.length_drop]
      omega
    have told := are_good (rs := rs.take a ++ r :: rs.drop (a + 1)) Ω (by omega) (by omega) ok2
    have eb : decide (rs.take a ++ r :: rs.drop (a + 1)).Nodup = ((rs.take a ++ rs.drop (a + 1)).filter fun s => decide (s = r)).isEmpty := by
      have h2 : ((rs.take a ++ rs.drop (a + 1)).filter fun s => decide (s = r)).isEmpty = decide (r ∉ rs.take a ++ rs.drop (a + 1)) := by
        by_cases h : r ∈ rs.take a ++ rs.drop (a + 1)
        · rw [decide_eq_false (fun q => q h)]
          have : r ∈ (rs.take a ++ rs.drop (a + 1)).filter fun s => decide (s = r) := List.mem_filter.mpr ⟨h, decide_eq_true rfl⟩
          cases hf : (rs.take a ++ rs.drop (a + 1)).filter fun s => decide (s = r) with
          | nil => rw [hf] at this; cases this
          | cons _ _ => rfl
        · rw [decide_eq_true h, List.filter_eq_nil_iff.mpr fun s hs => by rw [decide_eq_true_eq]; exact fun e => h (e ▸ hs)] <;> rfl
      rw [h2]
      exact decide_eq_decide.mpr (put_nd R.nd r)
    rw [eb] at told
    have c1 : c_law_1 (V01 ns k c rs a (.val (encR r)) (.val (.tup ((rs.take a ++ r :: rs.drop (a + 1)).map encR))) (.val (.tup ((rs.take a ++ rs.drop (a + 1)).map encR))) s8 s9 s10 s11 s12) Ω = .ok (.lst (((rs.take a ++ rs.drop (a + 1)).filter fun s => decide (s = r)).map encR)) Ω := by
      have key : ∀ s : Rul, fEq (encR s) (encR r) = some (.bl (decide (s = r))) := fun s => by
        show (if (sh 8 (encR s) && sh 8 (encR r)) = true then some (D.bl (deq (encR s) (encR r))) else none) = _
        rw [encR_s8, encR_s8, deq_encR] <;> rfl
      have tr := dLc_filter (di := asSeq (dVar 7)) (dg := gN 11) (dt := nxT (dTest (dOp fEq (dVar 11) (dVar 5)))) (de := nxE (dVar 11)) (vs := [11]) (ρ := V01 ns k c rs a (.val (encR r)) (.val (.tup ((rs.take a ++ r :: rs.drop (a + 1)).map encR))) (.val (.tup ((rs.take a ++ rs.drop (a + 1)).map encR))) s8 s9 s10 s11 s12) (Ω := Ω) (xs := (rs.take a ++ rs.drop (a + 1)).map encR) (fun x => match fEq x (encR r) with | some (.bl b) => b | _ => false) id (seqU_ok rfl rfl) (by rw [List.length_map]; exact z _ (by omega)) fun x hx => by
        obtain ⟨s, hs, rfl⟩ := List.mem_map.mp hx
        refine ⟨V01 ns k c rs a (.val (encR r)) (.val (.tup ((rs.take a ++ r :: rs.drop (a + 1)).map encR))) (.val (.tup ((rs.take a ++ rs.drop (a + 1)).map encR))) s8 s9 s10 (.val (encR s)) s12, rfl, ?_, fun _ => nxE_ok rfl⟩
        rw [key s]
        exact nxT_ok (test_ok (op_ok rfl rfl (key s)))
      refine Eq.trans tr ?_
      rw [List.filter_map, show ((fun x => match fEq x (encR r) with | some (.bl b) => b | _ => false) ∘ encR) = fun s => decide (s = r) by funext s; show (match fEq (encR s) (encR r) with | some (.bl b) => b | _ => false) = _; rw [key s], List.map_id]
    rw [e6] at w6
    exact ⟨_, _, .val (.bl ((rs.take a ++ rs.drop (a + 1)).filter fun s => decide (s = r)).isEmpty), .val (.bl ((rs.take a ++ rs.drop (a + 1)).filter fun s => decide (s = r)).isEmpty), seq_nx w6 (seq_nx (w7 _) (seq_nx (asg_ok (andV_t (call_ok (cons_ok rfl rfl) (good hr Ω).2) (op_ok c1 rfl (eq_nil _))) rfl) (seq_nx (asg_ok (call_ok (cons_ok rfl rfl) told) rfl) (fin _ _ _))))⟩
  · have told := are_bad (zs := (rs.take a).map (fun r => (encR r, true)) ++ (d, false) :: (rs.drop (a + 1)).map fun r => (encR r, true)) Ω (by rw [List.length_append, List.length_cons]; omega) (by
      rw [List.length_append, List.length_cons, List.length_map, List.length_map, List.length_take, List.length_drop]
      omega) (fun u hu => by
      rcases List.mem_append.mp hu with h | h
      · obtain ⟨r, h2, rfl⟩ := List.mem_map.mp h
        exact good (R.ok r (List.mem_of_mem_take h2))
      · rcases List.mem_cons.mp h with rfl | h
        · exact hb
        · obtain ⟨r, h2, rfl⟩ := List.mem_map.mp h
          exact good (R.ok r (List.mem_of_mem_drop h2))) (by rw [List.all_append, List.all_cons, Bool.false_and, Bool.and_false])
    rw [List.map_append, List.map_cons, List.map_map, List.map_map] at told
    exact ⟨_, _, .val (.bl false), .val (.bl false), seq_nx w6 (seq_nx (w7 _) (seq_nx (asg_ok (andV_f (call_ok (cons_ok rfl rfl) (hb Ω).2)) rfl) (seq_nx (asg_ok (call_ok (cons_ok rfl rfl) told) rfl) (fin false _ _))))⟩
theorem body01 (ns : List Int) (k : Nat) (Ω : Om) (s2 s3 s4 s5 s6 s7 s8 s9 s10 s11 s12 : Slot) :
    ∃ (t2 t3 t4 t5 t6 t7 t8 t9 : Slot), b_law_4 [.val (.scr ns), .val (.int (k : Int)), s2, s3, s4, s5, s6, s7, s8, s9, s10, s11, s12] Ω = .nx [.val (.scr ns), .val (.int (k : Int)), t2, t3, t4, t5, t6, t7, t8, t9, s10, s11, s12] Ω := by
  obtain ⟨c0, h0⟩ := e_cell ns (k % 9) Ω
  obtain ⟨c, hc⟩ : ∃ c : Int, c = c0 + 31 * (k : Int) := ⟨_, rfl⟩
  obtain ⟨rs, hrs, R⟩ := e_rules c Ω
  have h1 := R.ne
  have h4 : rs.length ≤ 4 := R.le
  have hm : fMod (.int (k : Int)) (.int 9) = some (.int ((k % 9 : Nat) : Int)) := (fMod_int (by omega)).trans (by rw [show ((k % 9 : Nat) : Int) = (k : Int) % 9 by omega])
  have w1 : dAsg (dOp fPlus (dCall F__law_cell (dCons (dVar 0) (dCons (dOp fMod (dVar 1) (dC (.int 9))) dNil))) (dOp fMul (dC (.int 31)) (dVar 1))) (gN 2) [.val (.scr ns), .val (.int (k : Int)), s2, s3, s4, s5, s6, s7, s8, s9, s10, s11, s12] Ω = .nx [.val (.scr ns), .val (.int (k : Int)), .val (.int c), s3, s4, s5, s6, s7, s8, s9, s10, s11, s12] Ω := by
    rw [hc]
    exact asg_ok (op_ok (call_ok (cons_ok rfl (cons_ok (op_ok rfl rfl hm) rfl)) h0) (op_ok rfl rfl (fMul_int (by omega))) fPlus_int) rfl
  have g1 := are_good Ω h1 h4 R.ok
  rw [decide_eq_true R.nd] at g1
  have g2 : F_are_rules [.lst (rs.map encR)] Ω = .ok (.bl false) Ω := rfl
  have g3 : F_are_rules [.tup ((rs ++ rs.take 1).map encR)] Ω = .ok (.bl false) Ω := by
    have ln : (rs ++ rs.take 1).length = rs.length + 1 := by rw [List.length_append, List.length_take]; omega
    by_cases h : rs.length = 4
    · exact are_long _ Ω (by rw [List.length_map, ln]; omega)
    · have := are_good (rs := rs ++ rs.take 1) Ω (by omega) (by omega) (fun r hr => by
        rcases List.mem_append.mp hr with h | h
        · exact R.ok r h
        · exact R.ok r (List.mem_of_mem_take h))
      rw [this, decide_eq_false]
      intro nd
      cases rs with
      | nil => exact absurd h1 (by simp)
      | cons x t =>
        have := (List.nodup_append.mp nd).2.2 x List.mem_cons_self x (by rw [List.take_succ_cons]; exact List.mem_cons_self)
        exact this rfl
  have p1 : fPlus (.tup (rs.map encR)) (.tup ((rs.take 1).map encR)) = some (.tup ((rs ++ rs.take 1).map encR)) := (fPlus_tup (by
    rw [List.length_map, List.length_map, List.length_take]
    exact Nat.le_trans (show rs.length + min 1 rs.length ≤ 100 by omega) (by unfold lim; decide))).trans (by rw [List.map_append])
  obtain ⟨a, m1, m2⟩ := e_mix c 9811 (((rs.map encR).length : Nat) : Int) Ω (by omega) (by rw [List.length_map]; omega)
  rw [List.length_map] at m2
  obtain ⟨ds, e1, e2⟩ := e_strange c Ω
  obtain ⟨ρ', w5, t5, t6, t7, t8, t9, rfl⟩ : ∃ ρ', l_law_3 (V01 ns k c rs a s5 s6 s7 s8 s9 s10 s11 s12) Ω = .nx ρ' Ω ∧ ∃ (t5 t6 t7 t8 t9 : Slot), ρ' = V01 ns k c rs a t5 t6 t7 t8 t9 s10 s11 s12 := by
    refine dFor_inv (fun _ ρ => ∃ (t5 t6 t7 t8 t9 : Slot), ρ = V01 ns k c rs a t5 t6 t7 t8 t9 s10 s11 s12) (seqU_ok (x := .lst ds) (call_ok (cons_ok rfl rfl) e1) rfl) ⟨s5, s6, s7, s8, s9, rfl⟩ ?_
    rintro i x ρ hx ⟨t5, t6, t7, t8, t9, rfl⟩
    obtain ⟨u6, u7, u8, u9, e⟩ := thing_ok (ns := ns) (k := k) (c := c) (Ω := Ω) R (show a < rs.length by omega) (e2 x (List.mem_of_getElem? hx)) t6 t7 t8 t9 s10 s11 s12
    exact ⟨_, _, rfl, e, _, _, _, _, _, rfl⟩
  refine ⟨.val (.int c), .val (.tup (rs.map encR)), .val (.int (a : Int)), t5, t6, t7, t8, t9, ?_⟩
  refine seq_nx w1 (seq_nx (asg_ok (call_ok (cons_ok rfl rfl) hrs) rfl) ?_)
  refine seq_nx (ifS_f (or_f (test_ok (op_ok (call_ok (cons_ok rfl rfl) g1) rfl rfl)) (test_ok (op_ok (call_ok (cons_ok (cb_ok (cons_ok rfl rfl) rfl) rfl) g2) rfl rfl))) rfl) ?_
  refine seq_nx (ifS_f (test_ok (op_ok (call_ok (cons_ok (op_ok rfl (sl_ok rfl noP_ok (part_ok rfl) (sl_tk (a := 1) h1)) p1) rfl) g3) rfl rfl)) rfl) ?_
  refine seq_nx (asg_ok (call_ok (cons_ok rfl (cons_ok rfl (cons_ok (cb_ok (cons_ok rfl rfl) rfl) rfl))) m1) rfl) ?_
  exact w5
theorem law_true (ns : List Int) (hl : ns.length ≤ 63) : ∃ Ω', F_law [.scr ns] [] = .ok (.bl true) Ω' := by
  obtain ⟨ρ', w1, s1, s2, s3, s4, s5, s6, s7, s8, s9, rfl⟩ : ∃ ρ', l_law_5 [.val (.scr ns), .un, .un, .un, .un, .un, .un, .un, .un, .un, .un, .un, .un] [] = .nx ρ' [] ∧ ∃ (s1 s2 s3 s4 s5 s6 s7 s8 s9 : Slot), ρ' = [.val (.scr ns), s1, s2, s3, s4, s5, s6, s7, s8, s9, .un, .un, .un] := by
    refine dFor_inv (fun _ ρ => ∃ (s1 s2 s3 s4 s5 s6 s7 s8 s9 : Slot), ρ = [.val (.scr ns), s1, s2, s3, s4, s5, s6, s7, s8, s9, .un, .un, .un]) (r1_ok (k := 10) rfl (by omega)) ⟨_, _, _, _, _, _, _, _, _, rfl⟩ ?_
    rintro k x ρ hx ⟨s1, s2, s3, s4, s5, s6, s7, s8, s9, rfl⟩
    obtain ⟨rfl, hk⟩ := rangeL_get hx
    obtain ⟨t2, t3, t4, t5, t6, t7, t8, t9, e⟩ := body01 ns k [] s2 s3 s4 s5 s6 s7 s8 s9 .un .un .un
    exact ⟨[.val (.scr ns), .val (.int (k : Int)), s2, s3, s4, s5, s6, s7, s8, s9, .un, .un, .un], _, by rw [show (0 : Int) + (k : Int) = (k : Int) by omega] <;> rfl, e, _, _, _, _, _, _, _, _, _, rfl⟩
  have f4 := are_good (rs := [.long 1, .long 2, .long 3, .long 4]) [] (by decide) (by decide) (by decide)
  rw [decide_eq_true (by decide)] at f4
  have f5 := are_long ([Rul.long 1, .long 2, .long 3, .long 4, .long 5].map encR) [] (by decide)
  have c6 : c_law_6 [.val (.scr ns), s1, s2, s3, s4, s5, s6, s7, s8, s9, .un, .un, .un] [] = .ok (.lst ([Rul.long 1, .long 2, .long 3, .long 4, .long 5].map encR)) [] := rfl
  refine ⟨[], run_rt rfl (seq_nx w1 (seq_nx (asg_ok (cb_ok (cons_ok c6 rfl) rfl) rfl) (seq_nx (ifS_f (or_f (test_ok (op_ok (call_ok (cons_ok (sl_ok rfl noP_ok (part_ok rfl) rfl) rfl) f4) rfl rfl)) (test_ok (op_ok (call_ok (cons_ok rfl rfl) f5) rfl rfl))) rfl) (ret_ok (andV_t (op_ok (call_ok (cons_ok (tup_ok (xs := []) rfl) rfl) rfl) rfl rfl) (op_ok (call_ok (cons_ok rfl rfl) rfl) rfl rfl))))))⟩
end FmP
namespace FmEnd
open PySem PySem.Spec L2 Fm FmW
open PyProof.Rows hiding St

def dd_is_small_word : He.DefD := ⟨("is_small_word", none), "is_small_word", "is_small_word", defArgs s_is_small_word, defBody s_is_small_word, defScope s_is_small_word, [], []⟩
def dd_is_sign : He.DefD := ⟨("is_sign", none), "is_sign", "is_sign", defArgs s_is_sign, defBody s_is_sign, defScope s_is_sign, [], []⟩
def dd_is_rule : He.DefD := ⟨("is_rule", none), "is_rule", "is_rule", defArgs s_is_rule, defBody s_is_rule, defScope s_is_rule, [], []⟩
def dd_are_rules : He.DefD := ⟨("are_rules", none), "are_rules", "are_rules", defArgs s_are_rules, defBody s_are_rules, defScope s_are_rules, [], []⟩
def dd__law_cell : He.DefD := ⟨("_law_cell", none), "_law_cell", "_law_cell", defArgs s__law_cell, defBody s__law_cell, defScope s__law_cell, [], []⟩
def dd__law_mix : He.DefD := ⟨("_law_mix", none), "_law_mix", "_law_mix", defArgs s__law_mix, defBody s__law_mix, defScope s__law_mix, [], []⟩
def dd__law_signs : He.DefD := ⟨("_law_signs", none), "_law_signs", "_law_signs", defArgs s__law_signs, defBody s__law_signs, defScope s__law_signs, [], []⟩
def dd__law_letters : He.DefD := ⟨("_law_letters", none), "_law_letters", "_law_letters", defArgs s__law_letters, defBody s__law_letters, defScope s__law_letters, [], []⟩
def dd__law_rule : He.DefD := ⟨("_law_rule", none), "_law_rule", "_law_rule", defArgs s__law_rule, defBody s__law_rule, defScope s__law_rule, [], []⟩
def dd__law_rules : He.DefD := ⟨("_law_rules", none), "_law_rules", "_law_rules", defArgs s__law_rules, defBody s__law_rules, defScope s__law_rules, [], []⟩
def dd__law_is_small : He.DefD := ⟨("_law_is_small", none), "_law_is_small", "_law_is_small", defArgs s__law_is_small, defBody s__law_is_small, defScope s__law_is_small, [], []⟩
def dd__law_is_rule : He.DefD := ⟨("_law_is_rule", none), "_law_is_rule", "_law_is_rule", defArgs s__law_is_rule, defBody s__law_is_rule, defScope s__law_is_rule, [], []⟩
def dd__law_strange : He.DefD := ⟨("_law_strange", none), "_law_strange", "_law_strange", defArgs s__law_strange, defBody s__law_strange, defScope s__law_strange, [], []⟩
def dd_law : He.DefD := ⟨("law", none), "law", "law", defArgs s_law, defBody s_law, defScope s_law, [], []⟩
def fn : List He.DefD := [dd_is_small_word, dd_is_sign, dd_is_rule, dd_are_rules, dd__law_cell, dd__law_mix, dd__law_signs, dd__law_letters, dd__law_rule, dd__law_rules, dd__law_is_small, dd__law_is_rule, dd__law_strange, dd_law]
def fa : List He.Fa := [.glo "is_small_word", .glo "is_sign", .glo "is_rule", .glo "are_rules", .glo "_law_cell", .glo "_law_mix", .glo "_law_signs", .glo "_law_letters", .glo "_law_rule", .glo "_law_rules", .glo "_law_is_small", .glo "_law_is_rule", .glo "_law_strange", .glo "law", .free "isinstance", .free "str", .free "len", .free "all", .free "tuple", .free "int", .free "bool", .free "set", .free "range", .free "list", .str "SMALL" ⟨sAz.toArray⟩, .str "GREAT" ⟨sAZ.toArray⟩]
def tf : List He.Defn := []
def ex : PySem.W.Frag → Bool := fun _ => true
abbrev R : PySem.W.OpenRow := PySem.W.OpenLaw.row PySem.Challenge.rw_faultmarks_k01_rules
abbrev hk : PySem.W.Hook := He.hookX 5 fa fn [] tf ex
def ob (s : PySem.W.SharedT) : He.AlX := He.obsX 5 fa fn [] tf ex (HandSHeadRun.getT s)
theorem ob_eq (s : PySem.W.SharedT) : ob s = hk.obs s.abs := He.obsX_eq (HandSHeadRun.getT_eq s)
def names : List PySem.Str := (["SMALL", "GREAT", "is_small_word", "is_sign", "is_rule", "are_rules", "_law_cell", "_law_mix", "_law_signs", "_law_letters", "_law_rule", "_law_rules", "_law_is_small", "_law_is_rule", "_law_strange"] : List PySem.Str)
set_option maxHeartbeats 0 in
theorem run (w : World) : HandSHeadRun.RunEq R (PySem.W.view R.prog [17]) hk ob 20000 names w := by
  intro os
  kernel_rfl
section
variable {P : Program} {w : World} {K : PySem.W.Frag} {mg : Str → Option Value}
theorem facts {h : Heap} (X : K.In h) (G : h.Ns mainGlobals mg) (c : He.SaysX fa fn [] tf ex w h K) :
    ∃ fd : FuncData, (∀ (s : Shared) (v : Value), BindsTo s fd ⟨[v], []⟩ [("_law_script", v)]) ∧ ∀ base : Heap, K.In base → base.Ns mainGlobals mg → FnOk P w K mg base (L2N.CX P w) 5 (He.fAd K ("law", none)) fd ["_law_script"] (spD K 1 F_law) := by
  have m_isinstance : mg "isinstance" = none := He.free_ok X G (c.t.d.fact 14 (f := .free "isinstance") rfl)
  have m_str : mg "str" = none := He.free_ok X G (c.t.d.fact 15 (f := .free "str") rfl)
  have m_len : mg "len" = none := He.free_ok X G (c.t.d.fact 16 (f := .free "len") rfl)
  have m_all : mg "all" = none := He.free_ok X G (c.t.d.fact 17 (f := .free "all") rfl)
  have m_tuple : mg "tuple" = none := He.free_ok X G (c.t.d.fact 18 (f := .free "tuple") rfl)
  have m_int : mg "int" = none := He.free_ok X G (c.t.d.fact 19 (f := .free "int") rfl)
  have m_bool : mg "bool" = none := He.free_ok X G (c.t.d.fact 20 (f := .free "bool") rfl)
  have m_set : mg "set" = none := He.free_ok X G (c.t.d.fact 21 (f := .free "set") rfl)
  have m_range : mg "range" = none := He.free_ok X G (c.t.d.fact 22 (f := .free "range") rfl)
  have m_list : mg "list" = none := He.free_ok X G (c.t.d.fact 23 (f := .free "list") rfl)
  obtain ⟨t_SMALL, m_SMALL⟩ := He.str_ok X G (c.t.d.fact 24 (f := .str "SMALL" ⟨sAz.toArray⟩) rfl)
  obtain ⟨t_GREAT, m_GREAT⟩ := He.str_ok X G (c.t.d.fact 25 (f := .str "GREAT" ⟨sAZ.toArray⟩) rfl)
  obtain ⟨fd_is_small_word, D_is_small_word⟩ := c.t.d.def_ 0 (d := dd_is_small_word) rfl
  have g_is_small_word : mg "is_small_word" = some (.ref (He.fAd K ("is_small_word", none))) := He.glo_ok X G (c.t.d.fact 0 (f := .glo "is_small_word") rfl)
  have b_is_small_word : Binds K fd_is_small_word ["thing", "least"] [] := FunD.bindsN D_is_small_word fun _ _ _ _ _ _ us hl => match us, hl with | [_, _], _ => rfl
  obtain ⟨fd_is_sign, D_is_sign⟩ := c.t.d.def_ 1 (d := dd_is_sign) rfl
  have g_is_sign : mg "is_sign" = some (.ref (He.fAd K ("is_sign", none))) := He.glo_ok X G (c.t.d.fact 1 (f := .glo "is_sign") rfl)
  have b_is_sign : Binds K fd_is_sign ["thing"] [] := FunD.bindsN D_is_sign fun _ _ _ _ _ _ us hl => match us, hl with | [_], _ => rfl
  obtain ⟨fd_is_rule, D_is_rule⟩ := c.t.d.def_ 2 (d := dd_is_rule) rfl
  have g_is_rule : mg "is_rule" = some (.ref (He.fAd K ("is_rule", none))) := He.glo_ok X G (c.t.d.fact 2 (f := .glo "is_rule") rfl)
  have b_is_rule : Binds K fd_is_rule ["thing"] [] := FunD.bindsN D_is_rule fun _ _ _ _ _ _ us hl => match us, hl with | [_], _ => rfl
  obtain ⟨fd_are_rules, D_are_rules⟩ := c.t.d.def_ 3 (d := dd_are_rules) rfl
  have g_are_rules : mg "are_rules" = some (.ref (He.fAd K ("are_rules", none))) := He.glo_ok X G (c.t.d.fact 3 (f := .glo "are_rules") rfl)
  have b_are_rules : Binds K fd_are_rules ["thing"] [] := FunD.bindsN D_are_rules fun _ _ _ _ _ _ us hl => match us, hl with | [_], _ => rfl
  obtain ⟨fd__law_cell, D__law_cell⟩ := c.t.d.def_ 4 (d := dd__law_cell) rfl
  have g__law_cell : mg "_law_cell" = some (.ref (He.fAd K ("_law_cell", none))) := He.glo_ok X G (c.t.d.fact 4 (f := .glo "_law_cell") rfl)
  have b__law_cell : Binds K fd__law_cell ["_law_script", "_law_k"] [] := FunD.bindsN D__law_cell fun _ _ _ _ _ _ us hl => match us, hl with | [_, _], _ => rfl
  obtain ⟨fd__law_mix, D__law_mix⟩ := c.t.d.def_ 5 (d := dd__law_mix) rfl
  have g__law_mix : mg "_law_mix" = some (.ref (He.fAd K ("_law_mix", none))) := He.glo_ok X G (c.t.d.fact 5 (f := .glo "_law_mix") rfl)
  have b__law_mix : Binds K fd__law_mix ["_law_cell_here", "_law_prime", "_law_many"] [] := FunD.bindsN D__law_mix fun _ _ _ _ _ _ us hl => match us, hl with | [_, _, _], _ => rfl
  obtain ⟨fd__law_signs, D__law_signs⟩ := c.t.d.def_ 6 (d := dd__law_signs) rfl
  have g__law_signs : mg "_law_signs" = some (.ref (He.fAd K ("_law_signs", none))) := He.glo_ok X G (c.t.d.fact 6 (f := .glo "_law_signs") rfl)
  have b__law_signs : Binds K fd__law_signs [] [] := FunD.bindsN D__law_signs fun _ _ _ _ _ _ us hl => match us, hl with | [], _ => rfl
  obtain ⟨fd__law_letters, D__law_letters⟩ := c.t.d.def_ 7 (d := dd__law_letters) rfl
  have g__law_letters : mg "_law_letters" = some (.ref (He.fAd K ("_law_letters", none))) := He.glo_ok X G (c.t.d.fact 7 (f := .glo "_law_letters") rfl)
  have b__law_letters : Binds K fd__law_letters ["_law_cell_here", "_law_many"] [] := FunD.bindsN D__law_letters fun _ _ _ _ _ _ us hl => match us, hl with | [_, _], _ => rfl
  obtain ⟨fd__law_rule, D__law_rule⟩ := c.t.d.def_ 8 (d := dd__law_rule) rfl
  have g__law_rule : mg "_law_rule" = some (.ref (He.fAd K ("_law_rule", none))) := He.glo_ok X G (c.t.d.fact 8 (f := .glo "_law_rule") rfl)
  have b__law_rule : Binds K fd__law_rule ["_law_cell_here"] [] := FunD.bindsN D__law_rule fun _ _ _ _ _ _ us hl => match us, hl with | [_], _ => rfl
  obtain ⟨fd__law_rules, D__law_rules⟩ := c.t.d.def_ 9 (d := dd__law_rules) rfl
  have g__law_rules : mg "_law_rules" = some (.ref (He.fAd K ("_law_rules", none))) := He.glo_ok X G (c.t.d.fact 9 (f := .glo "_law_rules") rfl)
  have b__law_rules : Binds K fd__law_rules ["_law_cell_here"] [] := FunD.bindsN D__law_rules fun _ _ _ _ _ _ us hl => match us, hl with | [_], _ => rfl
  obtain ⟨fd__law_is_small, D__law_is_small⟩ := c.t.d.def_ 10 (d := dd__law_is_small) rfl
  have g__law_is_small : mg "_law_is_small" = some (.ref (He.fAd K ("_law_is_small", none))) := He.glo_ok X G (c.t.d.fact 10 (f := .glo "_law_is_small") rfl)
  have b__law_is_small : Binds K fd__law_is_small ["_law_thing", "_law_least"] [] := FunD.bindsN D__law_is_small fun _ _ _ _ _ _ us hl => match us, hl with | [_, _], _ => rfl
  obtain ⟨fd__law_is_rule, D__law_is_rule⟩ := c.t.d.def_ 11 (d := dd__law_is_rule) rfl
  have g__law_is_rule : mg "_law_is_rule" = some (.ref (He.fAd K ("_law_is_rule", none))) := He.glo_ok X G (c.t.d.fact 11 (f := .glo "_law_is_rule") rfl)
  have b__law_is_rule : Binds K fd__law_is_rule ["_law_thing"] [] := FunD.bindsN D__law_is_rule fun _ _ _ _ _ _ us hl => match us, hl with | [_], _ => rfl
  obtain ⟨fd__law_strange, D__law_strange⟩ := c.t.d.def_ 12 (d := dd__law_strange) rfl
  have g__law_strange : mg "_law_strange" = some (.ref (He.fAd K ("_law_strange", none))) := He.glo_ok X G (c.t.d.fact 12 (f := .glo "_law_strange") rfl)
  have b__law_strange : Binds K fd__law_strange ["_law_cell_here"] [] := FunD.bindsN D__law_strange fun _ _ _ _ _ _ us hl => match us, hl with | [_], _ => rfl
  obtain ⟨fd_law, D_law⟩ := c.t.d.def_ 13 (d := dd_law) rfl
  have g_law : mg "law" = some (.ref (He.fAd K ("law", none))) := He.glo_ok X G (c.t.d.fact 13 (f := .glo "law") rfl)
  have b_law := FunD.bindsA (ps := ["_law_script"]) D_law fun _ _ _ _ _ _ us hl => match us, hl with | [_], _ => rfl
  refine ⟨fd_law, fun s v => b_law s [v] rfl, fun base KX NX => ?_⟩
  have k_is_small_word : Cal P w K mg base 1 "is_small_word" 2 F_is_small_word := ⟨_, fd_is_small_word, ["thing", "least"], (ok_is_small_word D_is_small_word m_isinstance m_str m_len m_all m_SMALL), g_is_small_word, D_is_small_word.kp, b_is_small_word⟩
  have k_is_sign : Cal P w K mg base 1 "is_sign" 1 F_is_sign := ⟨_, fd_is_sign, ["thing"], (ok_is_sign D_is_sign m_isinstance m_str m_len m_SMALL m_GREAT), g_is_sign, D_is_sign.kp, b_is_sign⟩
  have k_is_rule : Cal P w K mg base 2 "is_rule" 1 F_is_rule := ⟨_, fd_is_rule, ["thing"], (ok_is_rule D_is_rule m_isinstance m_tuple m_str m_len m_int m_bool (k_is_small_word.mono (by decide)) (k_is_sign.mono (by decide))), g_is_rule, D_is_rule.kp, b_is_rule⟩
  have k_are_rules : Cal P w K mg base 3 "are_rules" 1 F_are_rules := ⟨_, fd_are_rules, ["thing"], (ok_are_rules D_are_rules m_isinstance m_tuple m_len m_all m_set (k_is_rule.mono (by decide))), g_are_rules, D_are_rules.kp, b_are_rules⟩
  have k__law_cell : Cal P w K mg base 1 "_law_cell" 2 F__law_cell := ⟨_, fd__law_cell, ["_law_script", "_law_k"], (ok__law_cell D__law_cell m_len), g__law_cell, D__law_cell.kp, b__law_cell⟩
  have k__law_mix : Cal P w K mg base 1 "_law_mix" 3 F__law_mix := ⟨_, fd__law_mix, ["_law_cell_here", "_law_prime", "_law_many"], (ok__law_mix D__law_mix ), g__law_mix, D__law_mix.kp, b__law_mix⟩
  have k__law_signs : Cal P w K mg base 1 "_law_signs" 0 F__law_signs := ⟨_, fd__law_signs, [], (ok__law_signs D__law_signs ), g__law_signs, D__law_signs.kp, b__law_signs⟩
  have k__law_letters : Cal P w K mg base 2 "_law_letters" 2 F__law_letters := ⟨_, fd__law_letters, ["_law_cell_here", "_law_many"], (ok__law_letters D__law_letters m_range (k__law_mix.mono (by decide))), g__law_letters, D__law_letters.kp, b__law_letters⟩
  have k__law_rule : Cal P w K mg base 3 "_law_rule" 1 F__law_rule := ⟨_, fd__law_rule, ["_law_cell_here"], (ok__law_rule D__law_rule m_len (k__law_signs.mono (by decide)) (k__law_mix.mono (by decide)) (k__law_letters.mono (by decide))), g__law_rule, D__law_rule.kp, b__law_rule⟩
  have k__law_rules : Cal P w K mg base 4 "_law_rules" 1 F__law_rules := ⟨_, fd__law_rules, ["_law_cell_here"], (ok__law_rules D__law_rules m_range (k__law_mix.mono (by decide)) (k__law_rule.mono (by decide))), g__law_rules, D__law_rules.kp, b__law_rules⟩
  have k__law_is_small : Cal P w K mg base 1 "_law_is_small" 2 F__law_is_small := ⟨_, fd__law_is_small, ["_law_thing", "_law_least"], (ok__law_is_small D__law_is_small m_isinstance m_str m_len), g__law_is_small, D__law_is_small.kp, b__law_is_small⟩
  have k__law_is_rule : Cal P w K mg base 2 "_law_is_rule" 1 F__law_is_rule := ⟨_, fd__law_is_rule, ["_law_thing"], (ok__law_is_rule D__law_is_rule m_isinstance m_tuple m_str m_len m_int m_bool (k__law_is_small.mono (by decide))), g__law_is_rule, D__law_is_rule.kp, b__law_is_rule⟩
  have k__law_strange : Cal P w K mg base 2 "_law_strange" 1 F__law_strange := ⟨_, fd__law_strange, ["_law_cell_here"], (ok__law_strange D__law_strange m_range m_len (k__law_signs.mono (by decide)) (k__law_mix.mono (by decide))), g__law_strange, D__law_strange.kp, b__law_strange⟩
  exact (ok_law D_law m_range m_list m_len m_tuple (k__law_cell.mono (by decide)) (k__law_rules.mono (by decide)) (k_are_rules.mono (by decide)) (k__law_mix.mono (by decide)) (k__law_strange.mono (by decide)) (k__law_is_rule.mono (by decide)))
end
end FmEnd
open PySem PySem.W PySem.Calls PyProof.Rows
set_option maxHeartbeats 0 in
theorem PySem.Challenge.cw_faultmarks_k01_rules_holds : PySem.Challenge.rw_faultmarks_k01_rules.Holds := by
  w_on; o_law
  refine HandSHeadRun.head_any (r := OpenLaw.row PySem.Challenge.rw_faultmarks_k01_rules) (q := view (OpenLaw.row PySem.Challenge.rw_faultmarks_k01_rules).prog [17]) (H := FmEnd.hk) (ob := FmEnd.ob) (M := 20000) (loose := FmEnd.names) (d := HandSHeadRun.topDef (OpenLaw.row PySem.Challenge.rw_faultmarks_k01_rules).prog 17) (kwd := []) FmEnd.ob_eq
    (by kernel_rfl) (fun s => by kernel_rfl) FmEnd.run (by kernel_rfl) (by kernel_rfl) (by kernel_rfl) (by rfl) (by first | assumption | decide +kernel) (by decide +kernel) ⟨rfl, rfl, rfl, rfl, rfl, by decide +kernel⟩ ?hw ?hc
  case hw => w_witness2
  case hc =>
    refine LamX.walk_ofTsE (l := PySem.Challenge.rw_faultmarks_k01_rules) (n := 63) (k := 5) (x := "_law_script") (CX := fun w => L2N.CX (PySem.Challenge.rw_faultmarks_k01_rules).prog w) rfl (by decide) (by kernel_rfl) ⟨rfl, by decide, by decide⟩ ?F (fun w H s e s' z => Fm.cx_none z)
    intro w mg fa h Y G hmg0
    obtain ⟨K, KX, c⟩ := Y
    have hmg : mg ("law" : PySem.Str) = some (.ref fa) := by
      have e : (HandSHeadRun.topDef (OpenLaw.row PySem.Challenge.rw_faultmarks_k01_rules).prog 17).name = ("law" : PySem.Str) := by kernel_rfl
      rw [← e]
      exact hmg0
    have e := hmg.symm.trans (He.glo_ok KX G (c.t.d.fact 13 (f := .glo "law") rfl))
    cases e
    obtain ⟨fd, hb, hF⟩ := FmEnd.facts (P := (PySem.Challenge.rw_faultmarks_k01_rules).prog) (w := w) KX G c
    refine ⟨K, KX, fd, FmEnd.tf.map (He.cT K), Fm.spD K 1 FmW.F_law, ?_, ?_, ?_, hb, ?_, ?_⟩
    · exact fun p hp => by
        obtain ⟨q, hq, rfl⟩ := List.mem_map.mp hp
        exact c.empty q hq
    · exact fun p hp => by
        obtain ⟨q, hq, rfl⟩ := List.mem_map.mp hp
        exact c.out q hq
    · exact fun p hp => by
        obtain ⟨q, hq, rfl⟩ := List.mem_map.mp hp
        exact PySem.W.codeHd_of_K KX (c.hd q hq)
    · exact fun H a ns hl hbits hT hS => Fm.start_none (Ω := [])  hS (FmP.law_true ns hl)
    · exact fun base KB NB TB => hF base KB NB
