import PyProof.Rows.All
import Wide.All
import OpenK.AllK
import Wide.FinOn
import HandS.ForMost
import HandS.TupAny
import HandS.Zip
import HandS.Rev
import HandS.IsInst
import HandS.Deep
import HandS.Style
import HandS.Wide
import HandS.WideMore
import HandS.WideBits
import HandS.Gcd
import HandS.TupMul
import KE.KMathG
import PyProof.ReprRoads
import HandS.NoneIn
import KE.GoesMore
import KE.GoesEnum
import HandS.WordsExc
import HandS.Defaults
import HandS.ForExc
import HandS.EndBits
import HandS.HeadEnd
import HandS.Head0
import HandS.Head1
import HandS.Head2
import HandS.HeadHook1
import HandS.HeadHook2
import HandS.Head3
import PySem.Challenge.RW_straightroots_k50_whole_makings_of_anyth
set_option Elab.async false
set_option linter.all false
set_option maxRecDepth 100000
/-! DL: a layer of plain data over the hand layer. -/
namespace DL
open PySem PySem.Spec PyProof.Rows L2

/-- plain data: what a Python value is worth -/
inductive DV where
  | non | bl (b : Bool) | int (i : Int) | str (s : Str) | lst (xs : List DV) | scr (xs : List DV) | tup (xs : List DV) | fn (n : Str) | ty (n : String) | dct
  deriving Inhabited

structure Wd where
  K : PySem.W.Frag
  mg : Str → Option Value

/-- a tuple that stands off O, or in the written part -/
def TpD (W : Wd) (O : Addr → Prop) (H : Hp) (a : Addr) (xs : List V) : Prop := (¬ O a ∧ Rd H a (.tup xs)) ∨ SqT W.K (fun _ => none) a xs
def LsD (O : Addr → Prop) (H : Hp) (a : Addr) (xs : List V) : Prop := ¬ O a ∧ H a = some (.lst xs)
/-- the script: known to the object, or of the written part -/
def ScD (W : Wd) (O : Addr → Prop) (H : Hp) (a : Addr) (xs : List V) : Prop := (¬ O a ∧ ∃ o, H a = some (.frz o (.lst xs))) ∨ SqL W.K (fun _ => none) a xs
theorem TpD.sq {W : Wd} {O : Addr → Prop} {H : Hp} {a : Addr} {xs : List V} (h : TpD W O H a xs) : SqT W.K H a xs := by
  rcases h with ⟨_, h⟩ | h
  · exact .inl h
  · rcases h with (h | ⟨o, h⟩) | h
    · cases h
    · cases h
    · exact .inr h
theorem LsD.sq {K : PySem.W.Frag} {O : Addr → Prop} {H : Hp} {a : Addr} {xs : List V} (h : LsD O H a xs) : SqL K H a xs := .inl (.inl h.2)
theorem ScD.sq {W : Wd} {O : Addr → Prop} {H : Hp} {a : Addr} {xs : List V} (h : ScD W O H a xs) : SqL W.K H a xs := by
  rcases h with ⟨_, h⟩ | h
  · exact .inl (.inr h)
  · rcases h with (h | ⟨o, h⟩) | h
    · cases h
    · cases h
    · exact .inr h

mutual
/-- the value v is worth d; its own lists and tuples stand off O -/
def Rp (W : Wd) (O : Addr → Prop) (H : Hp) : DV → V → Prop
  | .non, v => v = .non
  | .bl b, v => v = .bl b
  | .int i, v => v = .int i
  | .str s, v => v = .str s
  | .fn n, v => ∃ a, v = .ref a ∧ W.mg n = some (.ref a)
  | .ty n, v => v = .ty n
  | .dct, v => ∃ a, v = .ref a ∧ ¬ O a ∧ H a = some (.dK [])
  | .lst ds, v => ∃ a xs, v = .ref a ∧ LsD O H a xs ∧ Rps W O H ds xs
  | .scr ds, v => ∃ a xs, v = .ref a ∧ ScD W O H a xs ∧ Rps W O H ds xs
  | .tup ds, v => ∃ a xs, v = .ref a ∧ TpD W O H a xs ∧ Rps W O H ds xs
def Rps (W : Wd) (O : Addr → Prop) (H : Hp) : List DV → List V → Prop
  | [], xs => xs = []
  | d :: ds, xs => ∃ v vs, xs = v :: vs ∧ Rp W O H d v ∧ Rps W O H ds vs
end

/-- what may come to pass between two states -/
structure Ext (O : Addr → Prop) (H : Hp) (O' : Addr → Prop) (H' : Hp) : Prop where
  sub : ∀ a, O a → O' a
  new : ∀ a, O' a → O a ∨ H a = none
  fut : ∀ b o, ¬ O b → H b = some o → H' b = some o
theorem Ext.refl {O : Addr → Prop} {H : Hp} : Ext O H O H := ⟨fun _ h => h, fun _ h => .inl h, fun _ _ _ h => h⟩
theorem Ext.trans {O O1 O2 : Addr → Prop} {H H1 H2 : Hp} (a : Ext O H O1 H1) (b : Ext O1 H1 O2 H2) : Ext O H O2 H2 := by
  refine ⟨fun x h => b.sub x (a.sub x h), fun x h => ?_, fun x o hn h => ?_⟩
  · rcases b.new x h with h | h
    · exact a.new x h
    · by_cases ho : O x
      · exact .inl ho
      · right
        cases q : H x with
        | none => rfl
        | some o => rw [a.fut x o ho q] at h; cases h
  · refine b.fut x o (fun z => ?_) (a.fut x o hn h)
    rcases a.new x z with z | z
    · exact hn z
    · rw [h] at z; cases z
theorem Ext.same {O : Addr → Prop} {H H' : Hp} (k : ∀ b o, H b = some o → H' b = some o) : Ext O H O H' := ⟨fun _ h => h, fun _ h => .inl h, fun b o _ h => k b o h⟩

section
variable {W : Wd} {O O' : Addr → Prop} {H H' : Hp}
theorem TpD.ext {a : Addr} {xs : List V} (h : TpD W O H a xs) (e : Ext O H O' H') : TpD W O' H' a xs := by
  rcases h with ⟨n, h⟩ | h
  · left
    refine ⟨fun z => ?_, ?_⟩
    · rcases e.new a z with z | z
      · exact n z
      · rcases h with h | ⟨o, h⟩ <;> rw [h] at z <;> cases z
    · rcases h with h | ⟨o, h⟩
      · exact .inl (e.fut _ _ n h)
      · exact .inr ⟨o, e.fut _ _ n h⟩
  · exact .inr h
theorem LsD.ext {a : Addr} {xs : List V} (h : LsD O H a xs) (e : Ext O H O' H') : LsD O' H' a xs := by
  refine ⟨fun z => ?_, e.fut _ _ h.1 h.2⟩
  rcases e.new a z with z | z
  · exact h.1 z
  · rw [h.2] at z; cases z
theorem ScD.ext {a : Addr} {xs : List V} (h : ScD W O H a xs) (e : Ext O H O' H') : ScD W O' H' a xs := by
  rcases h with ⟨n, o, h⟩ | h
  · left
    refine ⟨fun z => ?_, o, e.fut _ _ n h⟩
    rcases e.new a z with z | z
    · exact n z
    · rw [h] at z; cases z
  · exact .inr h
mutual
theorem Rp.ext (e : Ext O H O' H') : ∀ (d : DV) (v : V), Rp W O H d v → Rp W O' H' d v
  | .dct, v, h => by
    simp only [Rp] at h ⊢
    obtain ⟨a, h1, h2, h3⟩ := h
    refine ⟨a, h1, fun z => ?_, e.fut _ _ h2 h3⟩
    rcases e.new a z with z | z
    · exact h2 z
    · rw [h3] at z; cases z
  | .non, v, h => by simp only [Rp] at h ⊢; exact h
  | .bl b, v, h => by simp only [Rp] at h ⊢; exact h
  | .int i, v, h => by simp only [Rp] at h ⊢; exact h
  | .str s, v, h => by simp only [Rp] at h ⊢; exact h
  | .fn n, v, h => by simp only [Rp] at h ⊢; exact h
  | .ty n, v, h => by simp only [Rp] at h ⊢; exact h
  | .lst ds, v, h => by
    simp only [Rp] at h ⊢
    obtain ⟨a, xs, h1, h2, h3⟩ := h
    exact ⟨a, xs, h1, h2.ext e, Rps.ext e ds xs h3⟩
  | .scr ds, v, h => by
    simp only [Rp] at h ⊢
    obtain ⟨a, xs, h1, h2, h3⟩ := h
    exact ⟨a, xs, h1, h2.ext e, Rps.ext e ds xs h3⟩
  | .tup ds, v, h => by
    simp only [Rp] at h ⊢
    obtain ⟨a, xs, h1, h2, h3⟩ := h
    exact ⟨a, xs, h1, h2.ext e, Rps.ext e ds xs h3⟩
theorem Rps.ext (e : Ext O H O' H') : ∀ (ds : List DV) (vs : List V), Rps W O H ds vs → Rps W O' H' ds vs
  | [], vs, h => by simp only [Rps] at h ⊢; exact h
  | d :: ds, vs, h => by
    simp only [Rps] at h ⊢
    obtain ⟨v, ws, h1, h2, h3⟩ := h
    exact ⟨v, ws, h1, Rp.ext e d v h2, Rps.ext e ds ws h3⟩
end
mutual
/-- fewer hands off -/
theorem Rp.off (k : ∀ a, O' a → O a) : ∀ (d : DV) (v : V), Rp W O H d v → Rp W O' H d v
  | .dct, v, h => by
    simp only [Rp] at h ⊢
    obtain ⟨a, h1, h2, h3⟩ := h
    exact ⟨a, h1, fun z => h2 (k _ z), h3⟩
  | .non, v, h => by simp only [Rp] at h ⊢; exact h
  | .bl b, v, h => by simp only [Rp] at h ⊢; exact h
  | .int i, v, h => by simp only [Rp] at h ⊢; exact h
  | .str s, v, h => by simp only [Rp] at h ⊢; exact h
  | .fn n, v, h => by simp only [Rp] at h ⊢; exact h
  | .ty n, v, h => by simp only [Rp] at h ⊢; exact h
  | .lst ds, v, h => by
    simp only [Rp] at h ⊢
    obtain ⟨a, xs, h1, h2, h3⟩ := h
    exact ⟨a, xs, h1, ⟨fun z => h2.1 (k _ z), h2.2⟩, Rps.off k ds xs h3⟩
  | .scr ds, v, h => by
    simp only [Rp] at h ⊢
    obtain ⟨a, xs, h1, h2, h3⟩ := h
    refine ⟨a, xs, h1, ?_, Rps.off k ds xs h3⟩
    rcases h2 with ⟨n, h2⟩ | h2
    · exact .inl ⟨fun z => n (k _ z), h2⟩
    · exact .inr h2
  | .tup ds, v, h => by
    simp only [Rp] at h ⊢
    obtain ⟨a, xs, h1, h2, h3⟩ := h
    refine ⟨a, xs, h1, ?_, Rps.off k ds xs h3⟩
    rcases h2 with ⟨n, h2⟩ | h2
    · exact .inl ⟨fun z => n (k _ z), h2⟩
    · exact .inr h2
theorem Rps.off (k : ∀ a, O' a → O a) : ∀ (ds : List DV) (vs : List V), Rps W O H ds vs → Rps W O' H ds vs
  | [], vs, h => by simp only [Rps] at h ⊢; exact h
  | d :: ds, vs, h => by
    simp only [Rps] at h ⊢
    obtain ⟨v, ws, h1, h2, h3⟩ := h
    exact ⟨v, ws, h1, Rp.off k d v h2, Rps.off k ds ws h3⟩
end

/-! ### lists of values -/
theorem Rps.cons {d : DV} {ds : List DV} {v : V} {vs : List V} (a : Rp W O H d v) (b : Rps W O H ds vs) : Rps W O H (d :: ds) (v :: vs) := by
  simp only [Rps]; exact ⟨v, vs, rfl, a, b⟩
theorem Rps.nil : Rps W O H [] [] := by simp only [Rps]
theorem Rps.len : ∀ {ds : List DV} {vs : List V}, Rps W O H ds vs → ds.length = vs.length
  | [], vs, h => by simp only [Rps] at h; subst h; rfl
  | d :: ds, vs, h => by
    simp only [Rps] at h
    obtain ⟨v, ws, h1, _, h3⟩ := h
    subst h1
    rw [List.length_cons, List.length_cons, Rps.len h3]
theorem Rps.get : ∀ {ds : List DV} {vs : List V} {i : Nat} {d : DV}, Rps W O H ds vs → ds[i]? = some d → ∃ v, vs[i]? = some v ∧ Rp W O H d v
  | [], vs, i, d, h, e => by simp at e
  | x :: ds, vs, 0, d, h, e => by
    simp only [Rps] at h
    obtain ⟨v, ws, h1, h2, _⟩ := h
    subst h1
    simp at e; subst e
    exact ⟨v, rfl, h2⟩
  | x :: ds, vs, i + 1, d, h, e => by
    simp only [Rps] at h
    obtain ⟨v, ws, h1, _, h3⟩ := h
    subst h1
    simpa using Rps.get (i := i) h3 (by simpa using e)
theorem Rps.getV {ds : List DV} {vs : List V} {i : Nat} {v : V} (h : Rps W O H ds vs) (e : vs[i]? = some v) : ∃ d, ds[i]? = some d ∧ Rp W O H d v := by
  have hl := h.len
  have hi : i < ds.length := by
    rw [hl]
    by_cases q : i < vs.length
    · exact q
    · rw [List.getElem?_eq_none (by omega)] at e; cases e
  obtain ⟨u, h1, h2⟩ := h.get (List.getElem?_eq_getElem hi)
  rw [e] at h1; cases h1
  exact ⟨_, List.getElem?_eq_getElem hi, h2⟩
theorem Rps.app : ∀ {ds es : List DV} {vs us : List V}, Rps W O H ds vs → Rps W O H es us → Rps W O H (ds ++ es) (vs ++ us)
  | [], es, vs, us, h, g => by simp only [Rps] at h; subst h; exact g
  | d :: ds, es, vs, us, h, g => by
    simp only [Rps] at h
    obtain ⟨v, ws, h1, h2, h3⟩ := h
    subst h1
    exact Rps.cons h2 (Rps.app h3 g)
theorem Rps.take : ∀ {ds : List DV} {vs : List V} (n : Nat), Rps W O H ds vs → Rps W O H (ds.take n) (vs.take n)
  | _, _, 0, _ => by simp only [List.take_zero]; exact Rps.nil
  | [], vs, n + 1, h => by simp only [Rps] at h; subst h; exact Rps.nil
  | d :: ds, vs, n + 1, h => by
    simp only [Rps] at h
    obtain ⟨v, ws, h1, h2, h3⟩ := h
    subst h1
    exact Rps.cons h2 (Rps.take n h3)
theorem Rps.drop : ∀ {ds : List DV} {vs : List V} (n : Nat), Rps W O H ds vs → Rps W O H (ds.drop n) (vs.drop n)
  | ds, vs, 0, h => h
  | [], vs, n + 1, h => by simp only [Rps] at h; subst h; exact Rps.nil
  | d :: ds, vs, n + 1, h => by
    simp only [Rps] at h
    obtain ⟨v, ws, h1, _, h3⟩ := h
    subst h1
    exact Rps.drop n h3
theorem Rps.rev : ∀ {ds : List DV} {vs : List V}, Rps W O H ds vs → Rps W O H ds.reverse vs.reverse
  | [], vs, h => by simp only [Rps] at h; subst h; exact Rps.nil
  | d :: ds, vs, h => by
    simp only [Rps] at h
    obtain ⟨v, ws, h1, h2, h3⟩ := h
    subst h1
    rw [List.reverse_cons, List.reverse_cons]
    exact Rps.app (Rps.rev h3) (Rps.cons h2 Rps.nil)
theorem Rps.set {d : DV} {v : V} (a : Rp W O H d v) : ∀ {ds : List DV} {vs : List V} (i : Nat), Rps W O H ds vs → Rps W O H (ds.set i d) (vs.set i v)
  | [], vs, i, h => by simp only [Rps] at h; subst h; exact Rps.nil
  | x :: ds, vs, 0, h => by
    simp only [Rps] at h
    obtain ⟨w, ws, h1, _, h3⟩ := h
    subst h1
    exact Rps.cons a h3
  | x :: ds, vs, i + 1, h => by
    simp only [Rps] at h
    obtain ⟨w, ws, h1, h2, h3⟩ := h
    subst h1
    exact Rps.cons h2 (Rps.set a i h3)
theorem Rps.rep {ds : List DV} {vs : List V} (h : Rps W O H ds vs) : ∀ n : Nat, Rps W O H (List.replicate n ds).flatten (List.replicate n vs).flatten
  | 0 => Rps.nil
  | n + 1 => by
    rw [List.replicate_succ, List.replicate_succ, List.flatten_cons, List.flatten_cons]
    exact Rps.app h (Rps.rep h n)

/-! ### data as the library has it -/
mutual
def DV.py : DV → Option PyData
  | .non => some .none
  | .bl b => some (.bool b)
  | .int i => some (.int i)
  | .str s => some (.str s)
  | .lst xs => (DV.pys xs).map .list
  | .scr xs => (DV.pys xs).map .list
  | .tup xs => (DV.pys xs).map .tuple
  | .fn _ => none
  | .ty _ => none
  | .dct => none
def DV.pys : List DV → Option (List PyData)
  | [] => some []
  | x :: xs => match DV.py x, DV.pys xs with
    | some p, some ps => some (p :: ps)
    | _, _ => none
end
mutual
theorem Rp.dp : ∀ (d : DV) (v : V) (p : PyData), d.py = some p → Rp W O H d v → Dp W.K H v p
  | .non, v, p, e, h => by simp only [Rp, DV.py] at h e; cases e; subst h; exact .non
  | .bl b, v, p, e, h => by simp only [Rp, DV.py] at h e; cases e; subst h; exact .bl b
  | .int i, v, p, e, h => by simp only [Rp, DV.py] at h e; cases e; subst h; exact .int i
  | .str s, v, p, e, h => by simp only [Rp, DV.py] at h e; cases e; subst h; exact .str s
  | .fn n, v, p, e, h => by simp only [DV.py] at e; cases e
  | .ty n, v, p, e, h => by simp only [DV.py] at e; cases e
  | .dct, v, p, e, h => by simp only [DV.py] at e; cases e
  | .lst ds, v, p, e, h => by
    simp only [Rp, DV.py] at h e
    obtain ⟨a, xs, h1, h2, h3⟩ := h
    cases q : DV.pys ds with
    | none => rw [q] at e; cases e
    | some ps =>
      rw [q] at e; cases e
      subst h1
      exact .lst h2.sq (Rps.dps ds xs ps q h3)
  | .scr ds, v, p, e, h => by
    simp only [Rp, DV.py] at h e
    obtain ⟨a, xs, h1, h2, h3⟩ := h
    cases q : DV.pys ds with
    | none => rw [q] at e; cases e
    | some ps =>
      rw [q] at e; cases e
      subst h1
      exact .lst h2.sq (Rps.dps ds xs ps q h3)
  | .tup ds, v, p, e, h => by
    simp only [Rp, DV.py] at h e
    obtain ⟨a, xs, h1, h2, h3⟩ := h
    cases q : DV.pys ds with
    | none => rw [q] at e; cases e
    | some ps =>
      rw [q] at e; cases e
      subst h1
      exact .tup h2.sq (Rps.dps ds xs ps q h3)
theorem Rps.dps : ∀ (ds : List DV) (vs : List V) (ps : List PyData), DV.pys ds = some ps → Rps W O H ds vs → DpAll W.K H vs ps
  | [], vs, ps, e, h => by simp only [Rps, DV.pys] at h e; cases e; subst h; exact .nil
  | d :: ds, vs, ps, e, h => by
    simp only [Rps, DV.pys] at h e
    obtain ⟨v, ws, h1, h2, h3⟩ := h
    cases q1 : DV.py d with
    | none => rw [q1] at e; cases e
    | some p =>
      cases q2 : DV.pys ds with
      | none => rw [q1, q2] at e; cases e
      | some qs =>
        rw [q1, q2] at e; cases e
        subst h1
        exact .cons (Rp.dp d v p q1 h2) (Rps.dps ds ws qs q2 h3)
end

/-! ### a value read once: its outer list may be one's own -/
def RpW (W : Wd) (O : Addr → Prop) (H : Hp) (d : DV) (v : V) : Prop := Rp W O H d v ∨ ∃ ds a vs, d = .lst ds ∧ v = .ref a ∧ H a = some (.lst vs) ∧ Rps W O H ds vs
theorem Rp.w {d : DV} {v : V} (h : Rp W O H d v) : RpW W O H d v := .inl h
theorem RpW.int {i : Int} {v : V} (h : RpW W O H (.int i) v) : v = .int i := by
  rcases h with h | ⟨ds, a, vs, e, _⟩
  · simpa only [Rp] using h
  · cases e
theorem RpW.bl {i : Bool} {v : V} (h : RpW W O H (.bl i) v) : v = .bl i := by
  rcases h with h | ⟨ds, a, vs, e, _⟩
  · simpa only [Rp] using h
  · cases e
theorem RpW.str {i : Str} {v : V} (h : RpW W O H (.str i) v) : v = .str i := by
  rcases h with h | ⟨ds, a, vs, e, _⟩
  · simpa only [Rp] using h
  · cases e
theorem RpW.non {v : V} (h : RpW W O H .non v) : v = .non := by
  rcases h with h | ⟨ds, a, vs, e, _⟩
  · simpa only [Rp] using h
  · cases e
theorem RpW.ty {n : String} {v : V} (h : RpW W O H (.ty n) v) : v = .ty n := by
  rcases h with h | ⟨ds, a, vs, e, _⟩
  · simpa only [Rp] using h
  · cases e
theorem RpW.lst {ds : List DV} {v : V} (h : RpW W O H (.lst ds) v) : ∃ a xs, v = .ref a ∧ H a = some (.lst xs) ∧ Rps W O H ds xs := by
  rcases h with h | ⟨es, a, vs, e, h1, h2, h3⟩
  · simp only [Rp] at h
    obtain ⟨a, xs, h1, h2, h3⟩ := h
    exact ⟨a, xs, h1, h2.2, h3⟩
  · cases e
    exact ⟨a, vs, h1, h2, h3⟩
theorem RpW.scr {ds : List DV} {v : V} (h : RpW W O H (.scr ds) v) : ∃ a xs, v = .ref a ∧ SqL W.K H a xs ∧ Rps W O H ds xs := by
  rcases h with h | ⟨es, a, vs, e, h1, h2, h3⟩
  · simp only [Rp] at h
    obtain ⟨a, xs, h1, h2, h3⟩ := h
    exact ⟨a, xs, h1, h2.sq, h3⟩
  · cases e
theorem RpW.dct {v : V} (h : RpW W O H .dct v) : ∃ a, v = .ref a ∧ H a = some (.dK []) := by
  rcases h with h | ⟨es, a, vs, e, h1, h2, h3⟩
  · simp only [Rp] at h
    obtain ⟨a, h1, h2, h3⟩ := h
    exact ⟨a, h1, h3⟩
  · cases e
theorem RpW.tup {ds : List DV} {v : V} (h : RpW W O H (.tup ds) v) : ∃ a xs, v = .ref a ∧ TpD W O H a xs ∧ Rps W O H ds xs := by
  rcases h with h | ⟨es, a, vs, e, h1, h2, h3⟩
  · simpa only [Rp] using h
  · cases e
theorem RpW.dp {d : DV} {v : V} {p : PyData} (e : d.py = some p) (h : RpW W O H d v) : Dp W.K H v p := by
  rcases h with h | ⟨ds, a, vs, rfl, rfl, h2, h3⟩
  · exact Rp.dp d v p e h
  · simp only [DV.py] at e
    cases q : DV.pys ds with
    | none => rw [q] at e; cases e
    | some ps =>
      rw [q] at e; cases e
      exact .lst (.inl (.inl h2)) (Rps.dps ds vs ps q h3)
theorem Rp.tupNew {ds : List DV} {p : Addr} {vs : List V} (hO : ¬ O p) (h : Rps W O (upd H p (.tup vs)) ds vs) : Rp W O (upd H p (.tup vs)) (.tup ds) (.ref p) := by
  simp only [Rp]
  exact ⟨p, vs, rfl, .inl ⟨hO, .inl upd_same⟩, h⟩
theorem Rp.lstNew {ds : List DV} {p : Addr} {vs : List V} (hO : ¬ O p) (h : Rps W O (upd H p (.lst vs)) ds vs) : Rp W O (upd H p (.lst vs)) (.lst ds) (.ref p) := by
  simp only [Rp]
  exact ⟨p, vs, rfl, ⟨hO, upd_same⟩, h⟩
theorem Ext.upd {p : Addr} {o : HO} (h : H p = none) : Ext O H O (upd H p o) := Ext.same fun b x e => by
  rw [upd_ne (ne_of_none e h)]; exact e
end
end DL
set_option maxRecDepth 100000
namespace DL
open PySem PySem.Spec PyProof.Rows L2

/-! ### frames -/
inductive SV where
  | d (x : DV) | own (loc : Bool) (xs : List DV)
abbrev Frm := List (Option SV)
/-- what an expression gives: data, or one's own list in slot i -/
inductive RV where
  | d (x : DV) | own (i : Nat)
/-- an exception: its class's name, its fields -/
structure DX where
  cls : Str
  fl : List (Str × DV)
inductive Rs (α : Type) where
  | ok (a : α) | ex (e : DX)
abbrev M (α : Type) := Frm → Option (Rs α × Frm)
section
variable {α β : Type}
def M.ret (a : α) : M α := fun fr => some (.ok a, fr)
def M.bnd (f : M α) (g : α → M β) : M β := fun fr => match f fr with
  | some (.ok a, fr1) => g a fr1
  | some (.ex e, fr1) => some (.ex e, fr1)
  | none => none
def M.stk : M α := fun _ => none
def M.of (o : Option α) : M α := fun fr => match o with
  | some a => some (.ok a, fr)
  | none => none
end
inductive Out where
  | nx | bk | ct | rt (d : DV)
abbrev EF := M RV
abbrev AF := M (List RV)
abbrev TF := M Bool
abbrev SF := M Out

/-- what a body stands in: the heap at the entry, the lists that are lent to it, hands off these -/
structure Ct where
  H0 : Hp
  B : Addr → Prop
  ba : Nat → Addr
  O0 : Addr → Prop

structure Sim (W : Wd) (O : Addr → Prop) (C : Ct) (σ : L2.St) (fr : Frm) (H : Hp) : Prop where
  dat : ∀ (i : Nat) (x : DV), fr[i]? = some (some (.d x)) → ∃ v, σ[i]? = some (some v) ∧ Rp W O H x v
  own : ∀ (i : Nat) (l : Bool) (xs : List DV), fr[i]? = some (some (.own l xs)) → ∃ a vs, σ[i]? = some (some (.ref a)) ∧ O a ∧ H a = some (.lst vs) ∧ Rps W O H xs vs ∧ (l = true → C.H0 a = none) ∧ (l = false → a = C.ba i ∧ C.B a)
  inj : ∀ (i j : Nat) (l : Bool) (xs : List DV) (m : Bool) (ys : List DV) (a : Addr), fr[i]? = some (some (.own l xs)) → fr[j]? = some (some (.own m ys)) → σ[i]? = some (some (.ref a)) → σ[j]? = some (some (.ref a)) → i = j
  trk : ∀ a, O a → H a ≠ none
  keep : ∀ b o, ¬ C.B b → C.H0 b = some o → H b = some o
  len : fr.length = σ.length
  sub0 : ∀ a, C.O0 a → O a
  trk0 : ∀ a, C.O0 a → C.H0 a ≠ none
  subB : ∀ a, C.B a → O a

def RvOk (W : Wd) (O : Addr → Prop) (H : Hp) (σ : L2.St) (fr : Frm) : RV → V → Prop
  | .d x, v => Rp W O H x v
  | .own i, v => ∃ l xs, fr[i]? = some (some (.own l xs)) ∧ σ[i]? = some (some v)
def RvsOk (W : Wd) (O : Addr → Prop) (H : Hp) (σ : L2.St) (fr : Frm) : List RV → List V → Prop
  | [], vs => vs = []
  | r :: rs, vs => ∃ v ws, vs = v :: ws ∧ RvOk W O H σ fr r v ∧ RvsOk W O H σ fr rs ws
def snap (fr : Frm) : RV → Option DV
  | .d x => some x
  | .own i => match fr[i]? with
    | some (some (.own _ xs)) => some (.lst xs)
    | _ => none
/-- slots stay what they are; one's own lists may change -/
def Pat (fr fr' : Frm) : Prop := ∀ i : Nat, (∀ (l : Bool) (xs : List DV), fr[i]? = some (some (.own l xs)) → ∃ ys, fr'[i]? = some (some (.own l ys))) ∧ (∀ x : DV, fr[i]? = some (some (.d x)) → fr'[i]? = some (some (.d x))) ∧
  (∀ (l : Bool) (xs : List DV), fr'[i]? = some (some (.own l xs)) → ∃ ys, fr[i]? = some (some (.own l ys)))
theorem Pat.refl {fr : Frm} : Pat fr fr := fun i => ⟨fun l xs h => ⟨xs, h⟩, fun x h => h, fun l xs h => ⟨xs, h⟩⟩
theorem Pat.trans {fr f1 f2 : Frm} (a : Pat fr f1) (b : Pat f1 f2) : Pat fr f2 := fun i =>
  ⟨fun l xs h => let ⟨ys, h1⟩ := (a i).1 l xs h; (b i).1 l ys h1, fun x h => (b i).2.1 x ((a i).2.1 x h), fun l xs h => let ⟨ys, h1⟩ := (b i).2.2 l xs h; (a i).2.2 l ys h1⟩
section
variable {W : Wd} {O O' : Addr → Prop} {H H' : Hp} {C : Ct} {σ : L2.St} {fr fr' : Frm}
theorem RvOk.go {r : RV} {v : V} (h : RvOk W O H σ fr r v) (e : Ext O H O H') (p : Pat fr fr') : RvOk W O H' σ fr' r v := by
  cases r with
  | d x => exact Rp.ext e x v h
  | own i =>
    obtain ⟨l, xs, h1, h2⟩ := h
    obtain ⟨ys, h3⟩ := (p i).1 l xs h1
    exact ⟨l, ys, h3, h2⟩
theorem RvsOk.go : ∀ {rs : List RV} {vs : List V}, RvsOk W O H σ fr rs vs → Ext O H O H' → Pat fr fr' → RvsOk W O H' σ fr' rs vs
  | [], vs, h, _, _ => h
  | r :: rs, vs, ⟨v, ws, h1, h2, h3⟩, e, p => ⟨v, ws, h1, h2.go e p, RvsOk.go h3 e p⟩
theorem snap_ok (S : Sim W O C σ fr H) {r : RV} {v : V} {d : DV} (h : RvOk W O H σ fr r v) (e : snap fr r = some d) : RpW W O H d v := by
  cases r with
  | d x => cases e; exact .inl h
  | own i =>
    obtain ⟨l, xs, h1, h2⟩ := h
    simp only [snap, h1] at e
    cases e
    obtain ⟨a, vs, q1, q2, q3, q4, _⟩ := S.own i l xs h1
    rw [h2] at q1; cases q1
    exact .inr ⟨xs, a, vs, rfl, rfl, q3, q4⟩
/-- new objects come -/
theorem Sim.more (S : Sim W O C σ fr H) (k : ∀ b o, H b = some o → H' b = some o) : Sim W O C σ fr H' := by
  have e : Ext O H O H' := Ext.same k
  refine ⟨fun i x h => ?_, fun i l xs h => ?_, S.inj, fun a h z => ?_, fun b o n h => k _ _ (S.keep b o n h), S.len, S.sub0, S.trk0, S.subB⟩
  · obtain ⟨v, h1, h2⟩ := S.dat i x h
    exact ⟨v, h1, Rp.ext e x v h2⟩
  · obtain ⟨a, vs, h1, h2, h3, h4, h5⟩ := S.own i l xs h
    exact ⟨a, vs, h1, h2, k _ _ h3, Rps.ext e xs vs h4, h5⟩
  · cases q : H a with
    | none => exact S.trk a h q
    | some o => rw [k a o q] at z; cases z
theorem Sim.fresh (S : Sim W O C σ fr H) {p : Addr} (h : H p = none) : ¬ O p := fun z => S.trk p z h
end

/-- an exception of the class's own fields -/
def ExOk (W : Wd) (O : Addr → Prop) (H : Hp) (e : DX) (c : Value) (d : Option Addr) : Prop :=
  ∃ (Ca da : Addr) (vs : List V), c = .ref Ca ∧ W.mg e.cls = some (.ref Ca) ∧ d = some da ∧ H da = some (.xd ((e.fl.map (·.1)).zip vs)) ∧ Rps W O H (e.fl.map (·.2)) vs

/-! ### expressions -/
def KE (W : Wd) (E : XK) (O : Addr → Prop) (C : Ct) (σ : L2.St) (H : Hp) (fr' : Frm) {α : Type} (res : Rs α) : Prop :=
  ∀ x, res = .ex x → ∀ c d H', Sim W O C σ fr' H' → Ext O H O H' → ExOk W C.O0 H' x c d → E c d H'
def KO (W : Wd) (O : Addr → Prop) (C : Ct) (σ : L2.St) (H : Hp) (fr fr' : Frm) (res : Rs RV) (Q : VK) : Prop :=
  ∀ r, res = .ok r → ∀ v H', Sim W O C σ fr' H' → Ext O H O H' → Pat fr fr' → RvOk W O H' σ fr' r v → Q v H'
def tD (W : Wd) (E : XK) (f : EF) : TE := fun σ H Q => ∃ O C fr res fr', Sim W O C σ fr H ∧ f fr = some (res, fr') ∧ KO W O C σ H fr fr' res Q ∧ KE W E O C σ H fr' res
def KA (W : Wd) (O : Addr → Prop) (C : Ct) (σ : L2.St) (H : Hp) (fr fr' : Frm) (res : Rs (List RV)) (Q : List V → Hp → Prop) : Prop :=
  ∀ r, res = .ok r → ∀ v H', Sim W O C σ fr' H' → Ext O H O H' → Pat fr fr' → RvsOk W O H' σ fr' r v → Q v H'
def tA (W : Wd) (E : XK) (f : AF) : TA := fun σ H Q => ∃ O C fr res fr', Sim W O C σ fr H ∧ f fr = some (res, fr') ∧ KA W O C σ H fr fr' res Q ∧ KE W E O C σ H fr' res
def KT (W : Wd) (O : Addr → Prop) (C : Ct) (σ : L2.St) (H : Hp) (fr fr' : Frm) (res : Rs Bool) (Q : Bool → Hp → Prop) : Prop :=
  ∀ r, res = .ok r → ∀ H', Sim W O C σ fr' H' → Ext O H O H' → Pat fr fr' → Q r H'
def tT (W : Wd) (E : XK) (f : TF) : TT := fun σ H Q => ∃ O C fr res fr', Sim W O C σ fr H ∧ f fr = some (res, fr') ∧ KT W O C σ H fr fr' res Q ∧ KE W E O C σ H fr' res
theorem KE.go {W : Wd} {E : XK} {O : Addr → Prop} {C : Ct} {σ : L2.St} {H H1 : Hp} {fr' : Frm} {α : Type} {res : Rs α} (h : KE W E O C σ H fr' res) (e : Ext O H O H1) : KE W E O C σ H1 fr' res :=
  fun x hx c d H' S e1 k => h x hx c d H' S (e.trans e1) k

abbrev wd (X : Cx) : Wd := ⟨X.K, X.mg⟩
abbrev PD (X : Cx) (E : XK) (e : Expr) (f : EF) : Prop := PE X e (tD (wd X) E f)
abbrev PDA (X : Cx) (E : XK) (es : List Expr) (f : AF) : Prop := PA X es (tA (wd X) E f)
abbrev PDT (X : Cx) (E : XK) (e : Expr) (f : TF) : Prop := PT X e (tT (wd X) E f)
abbrev PDW (X : Cx) (E : XK) (e : Expr) (f : TF) : Prop := PW X e (tT (wd X) E f)

theorem PE_imp {X : Cx} {e : Expr} {t t' : TE} (h : PE X e t) (k : ∀ σ H Q, t' σ H Q → t σ H Q) : PE X e t' := ⟨fun pins s σ H Q I q => h.run pins s σ H Q I (k σ H Q q)⟩
theorem PT_imp {X : Cx} {e : Expr} {t t' : TT} (h : PT X e t) (k : ∀ σ H Q, t' σ H Q → t σ H Q) : PT X e t' := ⟨fun pins s σ H Q I q => h.run pins s σ H Q I (k σ H Q q)⟩
theorem PW_imp {X : Cx} {e : Expr} {t t' : TT} (h : PW X e t) (k : ∀ σ H Q, t' σ H Q → t σ H Q) : PW X e t' := ⟨fun w pins s σ H Q I q => h.run w pins s σ H Q I (k σ H Q q)⟩
theorem PA_imp {X : Cx} {e : List Expr} {t t' : TA} (h : PA X e t) (k : ∀ σ H Q, t' σ H Q → t σ H Q) : PA X e t' := ⟨fun w pins s σ H Q I q => h.run w pins s σ H Q I (k σ H Q q)⟩
theorem PS_imp {X : Cx} {e : Stmt} {t t' : TS} (h : PS X e t) (k : ∀ D σ H, t' D σ H → t D σ H) : PS X e t' := ⟨fun pins s σ H Q I q => h.run pins s σ H Q I (k Q σ H q)⟩
theorem PSs_imp {X : Cx} {e : List Stmt} {t t' : TS} (h : PSs X e t) (k : ∀ D σ H, t' D σ H → t D σ H) : PSs X e t' := ⟨fun pins s σ H Q I q => h.run pins s σ H Q I (k Q σ H q)⟩

section
variable {W : Wd} {E : XK} {O : Addr → Prop} {H : Hp} {C : Ct} {σ : L2.St} {fr fr' : Frm} {β : Type} {res : Rs β}
/-- an expression first, then what comes of it -/
theorem tD_bnd {f : EF} {g : RV → M β} {Q : VK} (S : Sim W O C σ fr H) (e : M.bnd f g fr = some (res, fr')) (ke : KE W E O C σ H fr' res)
    (k : ∀ r fr1 v H1, g r fr1 = some (res, fr') → Sim W O C σ fr1 H1 → Ext O H O H1 → Pat fr fr1 → RvOk W O H1 σ fr1 r v → KE W E O C σ H1 fr' res → Q v H1) : tD W E f σ H Q := by
  unfold M.bnd at e
  cases q : f fr with
  | none => rw [q] at e; cases e
  | some p =>
    obtain ⟨r, fr1⟩ := p
    rw [q] at e
    cases r with
    | ok r =>
      refine ⟨O, C, fr, .ok r, fr1, S, q, fun r' hr v H1 S1 e1 p1 ok => ?_, fun x hx => (by cases hx)⟩
      cases hr
      exact k r fr1 v H1 e S1 e1 p1 ok (ke.go e1)
    | ex x =>
      cases e
      refine ⟨O, C, fr, .ex x, fr', S, q, fun r' hr => (by cases hr), fun y hy c d H' S1 e1 ok => ?_⟩
      cases hy
      exact ke x rfl c d H' S1 e1 ok
theorem tA_bnd {f : AF} {g : List RV → M β} {Q : List V → Hp → Prop} (S : Sim W O C σ fr H) (e : M.bnd f g fr = some (res, fr')) (ke : KE W E O C σ H fr' res)
    (k : ∀ r fr1 v H1, g r fr1 = some (res, fr') → Sim W O C σ fr1 H1 → Ext O H O H1 → Pat fr fr1 → RvsOk W O H1 σ fr1 r v → KE W E O C σ H1 fr' res → Q v H1) : tA W E f σ H Q := by
  unfold M.bnd at e
  cases q : f fr with
  | none => rw [q] at e; cases e
  | some p =>
    obtain ⟨r, fr1⟩ := p
    rw [q] at e
    cases r with
    | ok r =>
      refine ⟨O, C, fr, .ok r, fr1, S, q, fun r' hr v H1 S1 e1 p1 ok => ?_, fun x hx => (by cases hx)⟩
      cases hr
      exact k r fr1 v H1 e S1 e1 p1 ok (ke.go e1)
    | ex x =>
      cases e
      refine ⟨O, C, fr, .ex x, fr', S, q, fun r' hr => (by cases hr), fun y hy c d H' S1 e1 ok => ?_⟩
      cases hy
      exact ke x rfl c d H' S1 e1 ok
theorem tT_bnd {f : TF} {g : Bool → M β} {Q : Bool → Hp → Prop} (S : Sim W O C σ fr H) (e : M.bnd f g fr = some (res, fr')) (ke : KE W E O C σ H fr' res)
    (k : ∀ r fr1 H1, g r fr1 = some (res, fr') → Sim W O C σ fr1 H1 → Ext O H O H1 → Pat fr fr1 → KE W E O C σ H1 fr' res → Q r H1) : tT W E f σ H Q := by
  unfold M.bnd at e
  cases q : f fr with
  | none => rw [q] at e; cases e
  | some p =>
    obtain ⟨r, fr1⟩ := p
    rw [q] at e
    cases r with
    | ok r =>
      refine ⟨O, C, fr, .ok r, fr1, S, q, fun r' hr H1 S1 e1 p1 => ?_, fun x hx => (by cases hx)⟩
      cases hr
      exact k r fr1 H1 e S1 e1 p1 (ke.go e1)
    | ex x =>
      cases e
      refine ⟨O, C, fr, .ex x, fr', S, q, fun r' hr => (by cases hr), fun y hy c d H' S1 e1 ok => ?_⟩
      cases hy
      exact ke x rfl c d H' S1 e1 ok
/-- run on from where one stands -/
theorem tD_of {f : EF} {Q : VK} {r : Rs RV} (S : Sim W O C σ fr H) (e : f fr = some (r, fr')) (ke : KE W E O C σ H fr' r) (k : KO W O C σ H fr fr' r Q) : tD W E f σ H Q := ⟨O, C, fr, r, fr', S, e, k, ke⟩
end

/-! ### names, constants -/
def eVar (i : Nat) : EF := fun fr => match fr[i]? with
  | some (some (.d x)) => some (.ok (.d x), fr)
  | some (some (.own _ _)) => some (.ok (.own i), fr)
  | _ => none
def eC (d : DV) : EF := M.ret (.d d)
section
variable {X : Cx} {E : XK}
theorem pd_var {i : Nat} {x : Str} {pos : Pos} (hN : X.N[i]? = some x) (hv : Vis X.env.scope x) (hd : (x == ("__debug__" : Str)) = false := by decide) (hcd : (x == ("__classdict__" : Str)) = false := by decide) : PD X E (.Name x pos) (eVar i) := by
  refine PE_imp (pe_var hN hv hd hcd) fun σ H Q h => ?_
  obtain ⟨O, C, fr, res, fr', S, e, k, ke⟩ := h
  unfold eVar at e
  cases q : fr[i]? with
  | none => rw [q] at e; cases e
  | some y =>
    cases y with
    | none => rw [q] at e; cases e
    | some y =>
      rw [q] at e
      cases y with
      | d x =>
        cases e
        obtain ⟨v, h1, h2⟩ := S.dat i x q
        exact ⟨v, h1, k _ rfl v H S .refl .refl h2⟩
      | own l xs =>
        cases e
        obtain ⟨a, vs, h1, _⟩ := S.own i l xs q
        exact ⟨_, h1, k _ rfl _ H S .refl .refl ⟨l, xs, q, h1⟩⟩
theorem pd_C {e : Expr} {v : V} {d : DV} (he : PE X e (tC v)) (hr : ∀ O H, Rp (wd X) O H d v) : PD X E e (eC d) := by
  refine PE_imp he fun σ H Q h => ?_
  obtain ⟨O, C, fr, res, fr', S, e, k, ke⟩ := h
  cases e
  exact k _ rfl v H S .refl .refl (hr O H)
theorem pd_int {i j pos} : PD X E (.Constant (.int i) j pos) (eC (.int i)) := pd_C pe_int fun O H => by simp only [Rp]
theorem pd_bl {i j pos} : PD X E (.Constant (.bool i) j pos) (eC (.bl i)) := pd_C pe_bl fun O H => by simp only [Rp]
theorem pd_non {j pos} : PD X E (.Constant .none j pos) (eC .non) := pd_C pe_non fun O H => by simp only [Rp]
theorem pd_str {i j pos} : PD X E (.Constant (.str i) j pos) (eC (.str i)) := pd_C pe_str fun O H => by simp only [Rp]

/-- a module's constant -/
structure Cst (W : Wd) (x : Str) (d : DV) : Prop where
  ex : ∃ u v, W.mg x = some u ∧ RelV v u ∧ ∀ O H, Rp W O H d v
theorem pd_glob {x : Str} {d : DV} {pos : Pos} (c : Cst (wd X) x d) (hg : Gl X x) (hd : (x == ("__debug__" : Str)) = false := by decide) : PD X E (.Name x pos) (eC d) := by
  obtain ⟨u, v, h1, h2, h3⟩ := c.ex
  exact pd_C (pe_glob hg h1 h2 hd) h3

/-! ### operators by values -/
abbrev g2 := DV → DV → Option DV
/-- the rule r of two values answers as g -/
def OpD (W : Wd) (r : R2) (g : g2) : Prop := ∀ (O : Addr → Prop) (H : Hp) (x y z : DV) (v u : V) (Q : VK), (∀ a, O a → H a ≠ none) → RpW W O H x v → RpW W O H y u → g x y = some z →
  (∀ w H', (∀ b o, H b = some o → H' b = some o) → Rp W O H' z w → Q w H') → r v u H Q
def eBin (g : g2) (fa fb : EF) : EF := M.bnd fa fun x => M.bnd fb fun y => fun fr => match snap fr x, snap fr y with
  | some d, some e => (g d e).map fun z => (.ok (.d z), fr)
  | _, _ => none
theorem bin_last {W : Wd} {O : Addr → Prop} {C : Ct} {σ : L2.St} {fr fr' fr0 : Frm} {H H0 : Hp} {g : g2} {r : R2} {x y : RV} {v u : V} {res : Rs RV} {Q : VK} (hg : OpD W r g) (S : Sim W O C σ fr H)
    (e : (match snap fr x, snap fr y with
      | some d, some e => (g d e).map fun z => (Rs.ok (RV.d z), fr)
      | _, _ => none) = some (res, fr')) (e0 : Ext O H0 O H) (p0 : Pat fr0 fr) (h1 : RvOk W O H σ fr x v) (h2 : RvOk W O H σ fr y u) (k : KO W O C σ H0 fr0 fr' res Q) : r v u H Q := by
  cases q1 : snap fr x with
  | none => rw [q1] at e; cases e
  | some d =>
    cases q2 : snap fr y with
    | none => rw [q1, q2] at e; cases e
    | some d2 =>
      rw [q1, q2] at e
      cases q3 : g d d2 with
      | none => simp only [q3] at e; cases e
      | some z =>
        simp only [q3, Option.map_some] at e
        cases e
        refine hg O H d d2 z v u Q S.trk (snap_ok S h1 q1) (snap_ok S h2 q2) q3 fun w H' kk hw => ?_
        exact k _ rfl w H' (S.more kk) (e0.trans (Ext.same kk)) p0 hw
theorem pd_bin {a b : Expr} {op : Operator} {r : R2} {g : g2} {fa fb : EF} {pos : Pos} (ho : OpR X (binaryOp op) r) (hg : OpD (wd X) r g) (ha : PD X E a fa) (hb : PD X E b fb) : PD X E (.BinOp a op b pos) (eBin g fa fb) := by
  refine PE_imp (pe_op ho ha hb) fun σ H Q h => ?_
  obtain ⟨O, C, fr, res, fr', S, e, k, ke⟩ := h
  refine tD_bnd S e ke fun x fr1 v H1 e S1 x1 p1 ok1 ke => ?_
  refine tD_bnd S1 e ke fun y fr2 u H2 e S2 x2 p2 ok2 ke => ?_
  exact bin_last hg S2 e (x1.trans x2) (p1.trans p2) (ok1.go x2 p2) ok2 k
theorem pd_cmp {a b : Expr} {op : CmpOp} {r : R2} {g : g2} {fa fb : EF} {pos : Pos} (ho : OpR X (compareOp op) r) (hg : OpD (wd X) r g) (ha : PD X E a fa) (hb : PD X E b fb) (hm : behindInMarks op b = false) : PD X E (.Compare a [op] [b] pos) (eBin g fa fb) := by
  refine PE_imp (pe_cmpR ho ha hb hm) fun σ H Q h => ?_
  obtain ⟨O, C, fr, res, fr', S, e, k, ke⟩ := h
  refine tD_bnd S e ke fun x fr1 v H1 e S1 x1 p1 ok1 ke => ?_
  refine tD_bnd S1 e ke fun y fr2 u H2 e S2 x2 p2 ok2 ke => ?_
  exact bin_last hg S2 e (x1.trans x2) (p1.trans p2) (ok1.go x2 p2) ok2 k
end
end DL
set_option maxRecDepth 100000
namespace DL
open PySem PySem.Spec PyProof.Rows L2

/-- how long lists may grow here -/
def LIM : Nat := 100000
theorem lim_le {n : Nat} (h : n ≤ LIM) : n ≤ sizeLine := Nat.le_trans h (by rw [sizeLine_eq]; decide)
theorem lim_lt {n : Nat} (h : n < LIM) : n < sizeLine := Nat.lt_of_lt_of_le h (lim_le (Nat.le_refl _))

section
variable {W : Wd} {O : Addr → Prop} {H : Hp} {Q : VK} {z : DV}
abbrev Want (W : Wd) (O : Addr → Prop) (H : Hp) (z : DV) (Q : VK) : Prop := ∀ w H', (∀ b o, H b = some o → H' b = some o) → Rp W O H' z w → Q w H'
theorem Want.here {w : V} (k : Want W O H z Q) (h : Rp W O H z w) : Q w H := k w H (fun _ _ e => e) h
theorem Want.int {i : Int} (k : Want W O H (.int i) Q) : Q (.int i) H := k.here (by simp only [Rp])
theorem Want.bl {i : Bool} (k : Want W O H (.bl i) Q) : Q (.bl i) H := k.here (by simp only [Rp])
theorem Want.str {i : Str} (k : Want W O H (.str i) Q) : Q (.str i) H := k.here (by simp only [Rp])
theorem Want.non (k : Want W O H .non Q) : Q .non H := k.here (by simp only [Rp])
theorem keep_new {p : Addr} {o : HO} (hp : H p = none) : ∀ b x, H b = some x → upd H p o b = some x := fun b x e => by rw [upd_ne (ne_of_none e hp)]; exact e
theorem Want.tup {ds : List DV} {vs : List V} (hO : ∀ a, O a → H a ≠ none) (k : Want W O H (.tup ds) Q) (h : Rps W O H ds vs) {p : Addr} (hp : H p = none) : Q (.ref p) (upd H p (.tup vs)) :=
  k _ _ (keep_new hp) (Rp.tupNew (fun z => hO p z hp) (Rps.ext (Ext.upd hp) _ _ h))
theorem Want.lst {ds : List DV} {vs : List V} (hO : ∀ a, O a → H a ≠ none) (k : Want W O H (.lst ds) Q) (h : Rps W O H ds vs) {p : Addr} (hp : H p = none) : Q (.ref p) (upd H p (.lst vs)) :=
  k _ _ (keep_new hp) (Rp.lstNew (fun z => hO p z hp) (Rps.ext (Ext.upd hp) _ _ h))
end

/-! ### + - * // % ** -/
def gAdd : g2
  | .int i, .int j => some (.int (i + j))
  | .tup xs, .tup ys => if xs.length + ys.length ≤ LIM then some (.tup (xs ++ ys)) else none
  | .lst xs, .lst ys => if xs.length + ys.length ≤ LIM then some (.lst (xs ++ ys)) else none
  | .str s, .str t => if s.length + t.length ≤ LIM then some (.str (s ++ t)) else none
  | _, _ => none
def gSub : g2
  | .int i, .int j => some (.int (i - j))
  | _, _ => none
def gMul : g2
  | .int i, .int j => if i.natAbs.log2 + j.natAbs.log2 < 100000000 then some (.int (i * j)) else none
  | .lst xs, .int k => if k ≤ 1000 ∧ -1000 ≤ k ∧ xs.length ≤ 1000 then some (.lst (List.replicate k.toNat xs).flatten) else none
  | .tup xs, .int k => if k ≤ 1000 ∧ -1000 ≤ k ∧ xs.length ≤ 1000 then some (.tup (List.replicate k.toNat xs).flatten) else none
  | _, _ => none
def gFdiv : g2
  | .int i, .int j => if 0 < j ∧ j.natAbs.log2 < 9000 then some (.int (i / j)) else none
  | _, _ => none
def gMod : g2
  | .int i, .int j => if 0 < j then some (.int (i % j)) else none
  | _, _ => none
def gPow : g2
  | .int i, .int j => if 0 ≤ j ∧ j ≤ 1000000 ∧ i.natAbs < 2 ^ 64 then some (.int (i ^ j.toNat)) else none
  | _, _ => none
section
variable {X : Cx}
def rAddA (K : PySem.W.Frag) : R2 := fun x y H Q => (rI0 (fun i j => V.int (i + j)) x y H Q) ∨ (rCatA K x y H Q) ∨ (rCat x y H Q) ∨ (∃ i j, x = .str i ∧ y = .str j ∧ i.length + j.length ≤ sizeLine ∧ Q (.str (i ++ j)) H)
theorem op_addA : OpR X (binaryOp .Add) (rAddA X.K) := op_add.or (op_catA.or (op_cat.or op_add_str))
theorem od_add : OpD (wd X) (rAddA X.K) gAdd := by
  intro O H x y z v u Q hO hx hy e k
  unfold gAdd at e
  split at e
  · cases e
    rw [hx.int, hy.int]
    exact .inl ⟨_, _, rfl, rfl, Want.int k⟩
  · rename_i xs ys
    split at e
    · rename_i hl
      cases e
      obtain ⟨a, vs, e1, t1, r1⟩ := hx.tup
      obtain ⟨b, us, e2, t2, r2⟩ := hy.tup
      subst e1; subst e2
      refine .inr (.inl ⟨a, b, vs, us, rfl, rfl, t1.sq, t2.sq, by rw [← r1.len, ← r2.len]; exact lim_le hl, fun z => ?_, fun n z => ?_, fun n m p hp => Want.tup hO k (r1.app r2) hp⟩)
      · have : xs = [] := List.eq_nil_of_length_eq_zero (by rw [r1.len, z]; rfl)
        subst this
        exact Want.here k (by simp only [Rp]; exact ⟨b, us, rfl, t2, r2⟩)
      · have : ys = [] := List.eq_nil_of_length_eq_zero (by rw [r2.len, z]; rfl)
        subst this
        exact Want.here k (by simp only [Rp, List.append_nil]; exact ⟨a, vs, rfl, t1, r1⟩)
    · cases e
  · rename_i xs ys
    split at e
    · rename_i hl
      cases e
      obtain ⟨a, vs, e1, t1, r1⟩ := hx.lst
      obtain ⟨b, us, e2, t2, r2⟩ := hy.lst
      subst e1; subst e2
      exact .inr (.inr (.inl ⟨a, b, vs, us, rfl, rfl, t1, t2, by rw [← r1.len, ← r2.len]; exact lim_le hl, fun p hp => Want.lst hO k (r1.app r2) hp⟩))
    · cases e
  · split at e
    · rename_i hl
      cases e
      rw [hx.str, hy.str]
      exact .inr (.inr (.inr ⟨_, _, rfl, rfl, lim_le hl, Want.str k⟩))
    · cases e
  · cases e
theorem od_sub : OpD (wd X) (rI0 fun i j => V.int (i - j)) gSub := by
  intro O H x y z v u Q hO hx hy e k
  unfold gSub at e
  split at e
  · cases e
    rw [hx.int, hy.int]
    exact ⟨_, _, rfl, rfl, Want.int k⟩
  · cases e
theorem od_fdiv : OpD (wd X) (rI CDivW fun i j => V.int (i / j)) gFdiv := by
  intro O H x y z v u Q hO hx hy e k
  unfold gFdiv at e
  split at e
  · split at e
    · rename_i hc
      cases e
      rw [hx.int, hy.int]
      exact ⟨_, _, rfl, rfl, hc, Want.int k⟩
    · cases e
  · cases e
theorem od_mod : OpD (wd X) (rI (fun _ j => 0 < j) fun i j => V.int (i % j)) gMod := by
  intro O H x y z v u Q hO hx hy e k
  unfold gMod at e
  split at e
  · split at e
    · rename_i hc
      cases e
      rw [hx.int, hy.int]
      exact ⟨_, _, rfl, rfl, hc, Want.int k⟩
    · cases e
  · cases e
theorem od_pow : OpD (wd X) (rI CPow fun i j => V.int (i ^ j.toNat)) gPow := by
  intro O H x y z v u Q hO hx hy e k
  unfold gPow at e
  split at e
  · split at e
    · rename_i hc
      cases e
      rw [hx.int, hy.int]
      exact ⟨_, _, rfl, rfl, hc, Want.int k⟩
    · cases e
  · cases e
end
end DL
set_option maxRecDepth 100000
set_option maxHeartbeats 4000000
/-! ### tuple * int, any count -/
namespace DL
open PySem PySem.Spec PyProof.Rows L2
theorem meets_tup_same (l : Addr) (items : Array Value) (n : Nat) (dd : Option Addr) (sl : Array (Option Value)) (x : Int) (u : Tok)
    (c0 : (decide (x < -(2 ^ 63)) || decide (x ≥ 2 ^ 63)) = false) (c1 : (items.isEmpty || x == 1) = true) :
    Meets (Builtin.«tuple.__mul__» ⟨[.ref l, .int x u], []⟩) (fun _ R s => s.heap.get? l = some { cls := .type "tuple", dict := dd, data := .seq items n, slots := sl } ∧ R (.ok (.ret (Value.ref l))) s) :=
  .of_wp fun prog w A R s h => by
    obtain ⟨hp, g, d, tk, os⟩ := s
    obtain ⟨hl, h⟩ := h
    have f1 := AutoSeq1.idx_int
    wp_walk using wpAny_loadPart' hl
    repeat (first
      | (refine wpAny_ite_false (decide_eq_false (fun z => by rw [c0] at z; cases z)) ?_; wp_walk using wpAny_loadPart' hl)
      | (refine wpAny_ite_true (decide_eq_true c1) ?_; wp_walk using wpAny_loadPart' hl))
    exact Exists.intro _ ⟨rfl, h⟩
theorem meets_tup_none (l : Addr) (items : Array Value) (n : Nat) (dd : Option Addr) (sl : Array (Option Value)) (x : Int) (u : Tok)
    (c0 : (decide (x < -(2 ^ 63)) || decide (x ≥ 2 ^ 63)) = false) (c1 : (items.isEmpty || x == 1) = false) (c2 : (decide (x ≤ 0) || items.isEmpty) = true) :
    Meets (Builtin.«tuple.__mul__» ⟨[.ref l, .int x u], []⟩) (fun _ R s => s.heap.get? l = some { cls := .type "tuple", dict := dd, data := .seq items n, slots := sl } ∧
      R (.ok (.ret (Value.ref s.heap.objs.size))) { s with heap := s.heap.push { cls := Value.type "tuple", data := Data.seq #[] }, toks := s.toks }) :=
  .of_wp fun prog w A R s h => by
    obtain ⟨hp, g, d, tk, os⟩ := s
    obtain ⟨hl, h⟩ := h
    have f1 := AutoSeq1.idx_int
    wp_walk using wpAny_loadPart' hl
    repeat (first
      | (refine wpAny_ite_false (decide_eq_false (fun z => by rw [c0] at z; cases z)) ?_; wp_walk using wpAny_loadPart' hl)
      | (refine wpAny_ite_false (decide_eq_false (by rw [c1]; decide)) ?_; wp_walk using wpAny_loadPart' hl)
      | (refine wpAny_ite_true (decide_eq_true c2) ?_; wp_walk using wpAny_loadPart' hl)
      | (refine wpAny_ite_false (decide_eq_false (by decide)) ?_; wp_walk using wpAny_loadPart' hl))
    exact Exists.intro _ ⟨rfl, h⟩
def rRepA (K : PySem.W.Frag) : R2 := fun x y H Q => ∃ l k xs, x = .ref l ∧ y = .int k ∧ SqT K H l xs ∧ k ≤ 1000 ∧ -1000 ≤ k ∧ xs.length ≤ 1000 ∧
  (xs = [] ∨ k = 1 → Q (.ref l) H) ∧ (xs ≠ [] → k ≤ 0 → ∀ p, H p = none → Q (.ref p) (upd H p (.tup []))) ∧ (xs ≠ [] → 2 ≤ k → ∀ p, H p = none → Q (.ref p) (upd H p (.tup (List.replicate k.toNat xs).flatten)))
theorem op_repA {X : Cx} : OpR X (binaryOp .Mult) (rRepA X.K) := by
  intro pins s σ H x y v u Q I rx ry h
  obtain ⟨l, k, xs, e1, e2, hT, b1, b2, b3, q1, q2, q3⟩ := h
  subst e1; subst e2
  by_cases big : xs ≠ [] ∧ 2 ≤ k
  · exact op_repT pins s σ H _ _ v u Q I rx ry ⟨l, k, xs, rfl, rfl, hT, big.1, big.2, b1, b3, q3 big.1 big.2⟩
  · cases rx
    obtain ⟨t, rfl⟩ := ry
    obtain ⟨its, r, ⟨⟨cls, dd, data, sl⟩, ho, hc, n, hd⟩, hs⟩ := I.tuple hT
    simp only at hc hd
    subst hc; subst hd
    have hle : its.length = xs.length := r.length.symm
    have c0 : (decide (k < -(2 ^ 63)) || decide (k ≥ 2 ^ 63)) = false := by
      simp only [Bool.or_eq_false_iff, decide_eq_false_iff_not]
      omega
    by_cases same : xs = [] ∨ k = 1
    · have c1 : (its.toArray.isEmpty || k == 1) = true := by
        rcases same with e | e
        · have : its = [] := List.eq_nil_of_length_eq_zero (by rw [hle, e]; rfl)
          rw [this]; rfl
        · rw [e]; simp
      exact wpAny_binaryOp_repeat_ref (T := "tuple") (U := "int") (by decide) ⟨_, ho, rfl⟩ (fun s2 => typeIs_int s2 k t) noFill_tuple_mul F.fills_int_mul F.slot_int_rmul repeat_tuple
        F.slot_int_index.lookup (call_meets F.slot_int_rmul (typeIs_int s k t) F.entry_int_rmul (F.args_int_rmul_2 _ _) (int_rmul_tuple k t l its.toArray n dd sl) ⟨ho, rfl, ⟨_, ho, rfl⟩,
          call_meets F.slot_tuple_mul ⟨_, ho, rfl⟩ F.entry_tuple_mul (F.args_tuple_mul_2 _ _) (meets_tup_same l its.toArray n dd sl k t c0 c1) ⟨ho, ⟨.ref l, H, I, rfl, q1 same⟩⟩⟩)
    · have hne : xs ≠ [] := fun e => same (.inl e)
      have hk : k ≤ 0 := by
        by_cases z : k ≤ 0
        · exact z
        · exact absurd ⟨hne, by have : k ≠ 1 := fun e => same (.inr e); omega⟩ big
      have hi : its.toArray.isEmpty = false := by
        cases its with
        | nil => exact absurd (List.eq_nil_of_length_eq_zero (by rw [← hle]; rfl)) hne
        | cons a b => rfl
      have c1 : (its.toArray.isEmpty || k == 1) = false := by
        rw [hi, Bool.false_or]
        exact beq_eq_false_iff_ne.mpr (by omega)
      have c2 : (decide (k ≤ 0) || its.toArray.isEmpty) = true := by rw [decide_eq_true hk]; rfl
      refine wpAny_binaryOp_repeat_ref (T := "tuple") (U := "int") (by decide) ⟨_, ho, rfl⟩ (fun s2 => typeIs_int s2 k t) noFill_tuple_mul F.fills_int_mul F.slot_int_rmul repeat_tuple
        F.slot_int_index.lookup (call_meets F.slot_int_rmul (typeIs_int s k t) F.entry_int_rmul (F.args_int_rmul_2 _ _) (int_rmul_tuple k t l its.toArray n dd sl) ⟨ho, rfl, ⟨_, ho, rfl⟩,
          call_meets F.slot_tuple_mul ⟨_, ho, rfl⟩ F.entry_tuple_mul (F.args_tuple_mul_2 _ _) (meets_tup_none l its.toArray n dd sl k t c0 c1 c2) ⟨ho, ?_⟩⟩)
      refine ⟨.ref s.heap.objs.size, _, I.laid (t' := s.toks) (o := .tup []) (fun b ob q => Heap.get?_push_of_some _ q) (Nat.le_refl _) ?_, rfl, q2 hne hk _ (I.hok.fresh (Nat.le_refl _))⟩
      exact ⟨Nat.zero_le _, [], .nil, IsTup.new _ _⟩
end DL
namespace DL
open PySem PySem.Spec PyProof.Rows L2
section
variable {X : Cx}
/-- * of two factors of together less than a hundred million bits -/
def CMulX (i j : Int) : Prop := i.natAbs.log2 + j.natAbs.log2 < 100000000
theorem bits_log (x : Int) : Builtin.Int.intBits x ≤ x.natAbs.log2 + 1 := by
  unfold Builtin.Int.intBits
  by_cases z : (x == 0) = true
  · rw [if_pos z]; omega
  · rw [if_neg z]; omega
theorem CMulX.ok {i j : Int} (h : CMulX i j) : IntMulOk i j := by
  unfold CMulX at h
  exact mulOk_of_bits (bits_log i) (bits_log j) (by omega)
theorem op_mulX : OpR X (binaryOp .Mult) (rI CMulX fun i j => .int (i * j)) := opI fun _ _ _ _ _ _ _ hc q => mul_int q hc.ok
def rMulA (K : PySem.W.Frag) : R2 := fun x y H Q => (rI CMulX (fun i j => V.int (i * j)) x y H Q) ∨ (rRepA K x y H Q) ∨ (rRep x y H Q)
theorem op_mulA : OpR X (binaryOp .Mult) (rMulA X.K) := op_mulX.or (op_repA.or op_rep)
theorem rep_len {xs : List DV} {k : Int} (h1 : k ≤ 1000) (h2 : xs.length ≤ 1000) : xs.length * k.toNat ≤ sizeLine := by
  rw [sizeLine_eq]
  have : xs.length * k.toNat ≤ 1000 * 1000 := Nat.mul_le_mul h2 (by omega)
  omega
theorem od_mul : OpD (wd X) (rMulA X.K) gMul := by
  intro O H x y z v u Q hO hx hy e k
  unfold gMul at e
  split at e
  · split at e
    · rename_i hc
      cases e
      rw [hx.int, hy.int]
      exact .inl ⟨_, _, rfl, rfl, hc, Want.int k⟩
    · cases e
  · rename_i xs n
    split at e
    · rename_i hc
      cases e
      obtain ⟨a, vs, e1, t1, r1⟩ := hx.lst
      subst e1
      rw [hy.int]
      exact .inr (.inr ⟨a, n, vs, rfl, rfl, t1, by omega, by omega, by rw [← r1.len]; exact rep_len hc.1 hc.2.2, fun p hp => Want.lst hO k (r1.rep _) hp⟩)
    · cases e
  · rename_i xs n
    split at e
    · rename_i hc
      cases e
      obtain ⟨a, vs, e1, t1, r1⟩ := hx.tup
      subst e1
      rw [hy.int]
      refine .inr (.inl ⟨a, n, vs, rfl, rfl, t1.sq, hc.1, hc.2.1, by rw [← r1.len]; exact hc.2.2, fun q => ?_, fun hne hk p hp => ?_, fun _ _ p hp => Want.tup hO k (r1.rep _) hp⟩)
      · rcases q with q | q
        · have : xs = [] := List.eq_nil_of_length_eq_zero (by rw [r1.len, q]; rfl)
          subst this; subst q
          exact Want.here k (by simp only [Rp]; exact ⟨a, [], rfl, t1, by rw [show (List.replicate n.toNat ([] : List DV)).flatten = [] by induction n.toNat with
            | zero => rfl
            | succ m ih => rw [List.replicate_succ, List.flatten_cons, ih]; rfl]; exact Rps.nil⟩)
        · subst q
          exact Want.here k (by simp only [Rp]; exact ⟨a, vs, rfl, t1, by simpa using r1⟩)
      · have hz : n.toNat = 0 := by omega
        rw [hz] at k
        exact Want.tup (vs := []) hO k Rps.nil hp
    · cases e
  · cases e

/-! ### comparisons -/
def eqB (d e : DV) : Option Bool := match d.py, e.py with
  | some p, some q => if SeqAt.shaped p = true ∧ SeqAt.shaped q = true then some (PyData.eqv p q) else none
  | _, _ => none
def gEq : g2 := fun d e => (eqB d e).map .bl
def gNe : g2 := fun d e => (eqB d e).map fun b => .bl (!b)
theorem eqB_some {d e : DV} {b : Bool} (h : eqB d e = some b) : ∃ p q, d.py = some p ∧ e.py = some q ∧ SeqAt.shaped p = true ∧ SeqAt.shaped q = true ∧ b = PyData.eqv p q := by
  unfold eqB at h
  split at h
  · rename_i p q h1 h2
    split at h
    · rename_i hc
      cases h
      exact ⟨p, q, h1, h2, hc.1, hc.2, rfl⟩
    · cases h
  · cases h
theorem od_eq : OpD (wd X) (rEqD X.K) gEq := by
  intro O H x y z v u Q hO hx hy e k
  unfold gEq at e
  cases q : eqB x y with
  | none => rw [q] at e; cases e
  | some b =>
    rw [q] at e; cases e
    obtain ⟨p, q2, h1, h2, h3, h4, rfl⟩ := eqB_some q
    exact ⟨p, q2, hx.dp h1, hy.dp h2, h3, h4, Want.bl k⟩
theorem od_ne : OpD (wd X) (rNeD X.K) gNe := by
  intro O H x y z v u Q hO hx hy e k
  unfold gNe at e
  cases q : eqB x y with
  | none => rw [q] at e; cases e
  | some b =>
    rw [q] at e; cases e
    obtain ⟨p, q2, h1, h2, h3, h4, rfl⟩ := eqB_some q
    exact ⟨p, q2, hx.dp h1, hy.dp h2, h3, h4, Want.bl k⟩
def gInt (p : Int → Int → Bool) : g2
  | .int i, .int j => some (.bl (p i j))
  | _, _ => none
theorem od_int {p : Int → Int → Bool} : OpD (wd X) (rI0 fun i j => V.bl (p i j)) (gInt p) := by
  intro O H x y z v u Q hO hx hy e k
  unfold gInt at e
  split at e
  · cases e
    rw [hx.int, hy.int]
    exact ⟨_, _, rfl, rfl, Want.bl k⟩
  · cases e
abbrev gLt : g2 := gInt fun i j => decide (i < j)
abbrev gLe : g2 := gInt fun i j => decide (i ≤ j)
abbrev gGt : g2 := gInt fun i j => decide (j < i)
abbrev gGe : g2 := gInt fun i j => decide (j ≤ i)
/-- is, is not: None, truths -/
def isN : DV → Option Bool
  | .non => some true
  | .bl _ => some false
  | .int _ => some false
  | .str _ => some false
  | .lst _ => some false
  | .tup _ => some false
  | _ => none
def isB (neg : Bool) : g2
  | .bl a, .bl b => some (.bl (if neg then !decide (a = b) else decide (a = b)))
  | x, .non => (isN x).map fun b => .bl (if neg then !b else b)
  | _, _ => none
theorem isN_ok {O : Addr → Prop} {H : Hp} {x : DV} {v : V} {b : Bool} (h : RpW (wd X) O H x v) (e : isN x = some b) : decide (v = .non) = b := by
  cases x with
  | non => cases e; rw [h.non]; rfl
  | bl _ => cases e; rw [h.bl]; rfl
  | int _ => cases e; rw [h.int]; rfl
  | str _ => cases e; rw [h.str]; rfl
  | lst _ => cases e; obtain ⟨a, xs, e, _⟩ := h.lst; rw [e]; rfl
  | tup _ => cases e; obtain ⟨a, xs, e, _⟩ := h.tup; rw [e]; rfl
  | scr _ => cases e
  | fn _ => cases e
  | ty _ => cases e
  | dct => cases e
def rIsA : R2 := fun x y H Q => (∃ a b : Bool, x = .bl a ∧ y = .bl b ∧ Q (.bl (decide (a = b))) H) ∨ (y = .non ∧ Q (.bl (decide (x = .non))) H)
def rIsnotA : R2 := fun x y H Q => (∃ a b : Bool, x = .bl a ∧ y = .bl b ∧ Q (.bl (!decide (a = b))) H) ∨ (y = .non ∧ Q (.bl (!decide (x = .non))) H)
theorem op_isA : OpR X (compareOp .Is) rIsA := op_isBl.or op_isN
theorem op_isnotA : OpR X (compareOp .IsNot) rIsnotA := op_notBl.or op_notN
theorem od_is : OpD (wd X) rIsA (isB false) := by
  intro O H x y z v u Q hO hx hy e k
  unfold isB at e
  split at e
  · cases e
    rw [hx.bl, hy.bl]
    exact .inl ⟨_, _, rfl, rfl, Want.bl k⟩
  · cases q : isN x with
    | none => rw [q] at e; cases e
    | some b =>
      rw [q] at e; cases e
      rw [hy.non]
      exact .inr ⟨rfl, by rw [isN_ok hx q]; exact Want.bl k⟩
  · cases e
theorem od_isnot : OpD (wd X) rIsnotA (isB true) := by
  intro O H x y z v u Q hO hx hy e k
  unfold isB at e
  split at e
  · cases e
    rw [hx.bl, hy.bl]
    exact .inl ⟨_, _, rfl, rfl, Want.bl k⟩
  · cases q : isN x with
    | none => rw [q] at e; cases e
    | some b =>
      rw [q] at e; cases e
      rw [hy.non]
      exact .inr ⟨rfl, by rw [isN_ok hx q]; exact Want.bl k⟩
  · cases e
/-- in, not in: flat things -/
def fv : DV → Option V
  | .non => some .non
  | .bl b => some (.bl b)
  | .int i => some (.int i)
  | .str s => some (.str s)
  | _ => none
def fvs : List DV → Option (List V)
  | [] => some []
  | x :: xs => match fv x, fvs xs with
    | some v, some vs => some (v :: vs)
    | _, _ => none
def gIn (neg : Bool) : g2 := fun x y => match fv x with
  | none => none
  | some v => match (match y with
      | .tup ys => fvs ys
      | .lst ys => fvs ys
      | _ => none) with
    | none => none
    | some vs => some (.bl (if neg then !inV v vs else inV v vs))
theorem fv_ok {W : Wd} {O : Addr → Prop} {H : Hp} {x : DV} {v w : V} (h : Rp W O H x v) (e : fv x = some w) : v = w ∧ flatV w = true := by
  cases x <;> simp only [fv] at e <;> cases e <;> simp only [Rp] at h <;> exact ⟨h, rfl⟩
theorem fvs_ok {W : Wd} {O : Addr → Prop} {H : Hp} : ∀ {xs : List DV} {vs ws : List V}, Rps W O H xs vs → fvs xs = some ws → vs = ws ∧ ws.all flatV = true
  | [], vs, ws, h, e => by simp only [fvs] at e; cases e; simp only [Rps] at h; exact ⟨h, rfl⟩
  | x :: xs, vs, ws, h, e => by
    simp only [fvs] at e
    simp only [Rps] at h
    obtain ⟨v, us, h1, h2, h3⟩ := h
    split at e
    · rename_i w ws' q1 q2
      cases e
      obtain ⟨e1, f1⟩ := fv_ok h2 q1
      obtain ⟨e2, f2⟩ := fvs_ok h3 q2
      subst h1; subst e1; subst e2
      exact ⟨rfl, by simp [f1, f2]⟩
    · cases e
theorem od_in {neg : Bool} : OpD (wd X) (rIn X.K neg) (gIn neg) := by
  intro O H x y z v u Q hO hx hy e k
  unfold gIn at e
  split at e
  · cases e
  · rename_i w q1
    have hxf : v = w ∧ flatV w = true := by
      rcases hx with hx | ⟨ds, a, vs, rfl, _⟩
      · exact fv_ok hx q1
      · cases q1
    obtain ⟨e1, f1⟩ := hxf
    subst e1
    split at e
    · cases e
    · rename_i vs q2
      cases e
      split at q2
      · obtain ⟨a, us, e2, t, r⟩ := hy.tup
        obtain ⟨e3, f3⟩ := fvs_ok r q2
        subst e3
        exact ⟨a, us, e2, .inr t.sq, f1, f3, Want.bl k⟩
      · obtain ⟨a, us, e2, t, r⟩ := hy.lst
        obtain ⟨e3, f3⟩ := fvs_ok r q2
        subst e3
        exact ⟨a, us, e2, .inl (SqL.of t), f1, f3, Want.bl k⟩
      · cases q2
end
end DL
set_option maxRecDepth 100000
namespace DL
open PySem PySem.Spec PyProof.Rows L2

/-! ### tests -/
def tOf (f : EF) : TF := M.bnd f fun r => match r with
  | .d (.bl b) => M.ret b
  | _ => M.stk
def tNo (f : TF) : TF := M.bnd f fun b => M.ret (!b)
def tBoth (f g : TF) : TF := M.bnd f fun b => if b then g else M.ret false
def tAny (f g : TF) : TF := M.bnd f fun b => if b then M.ret true else g
section
variable {X : Cx} {E : XK}
theorem ptd_val {e : Expr} {f : EF} (h : PD X E e f) (he : ∀ whole, isTrue e X.env whole = (do let v ← whole; standAt e.pos; holding [v] (truthy v)) := by intro _; rfl) : PDT X E e (tOf f) := by
  refine PT_imp (pt_val h he) fun σ H Q q => ?_
  obtain ⟨O, C, fr, res, fr', S, e, k, ke⟩ := q
  refine tD_bnd S e ke fun x fr1 v H1 e S1 x1 p1 ok1 ke => ?_
  split at e
  · rename_i b
    cases e
    refine ⟨b, ?_, k _ rfl H1 S1 x1 p1⟩
    simpa only [RvOk, Rp] using ok1
  · cases e
theorem ptd_not {a : Expr} {f : TF} {pos : Pos} (h : PDT X E a f) : PDT X E (.UnaryOp .Not a pos) (tNo f) := by
  refine PT_imp (pt_not h) fun σ H Q q => ?_
  obtain ⟨O, C, fr, res, fr', S, e, k, ke⟩ := q
  refine tT_bnd S e ke fun b fr1 H1 e S1 x1 p1 ke => ?_
  cases e
  exact k _ rfl H1 S1 x1 p1
theorem pwd_and1 {a : Expr} {f : TF} {pos : Pos} (h : PDT X E a f) : PDW X E (.BoolOp .And [a] pos) f := pw_and1 h
theorem pwd_or1 {a : Expr} {f : TF} {pos : Pos} (h : PDT X E a f) : PDW X E (.BoolOp .Or [a] pos) f := pw_or1 h
theorem pwd_and {a b : Expr} {rest : List Expr} {f g : TF} {pos : Pos} (ha : PDT X E a f) (hb : PDW X E (.BoolOp .And (b :: rest) pos) g) : PDW X E (.BoolOp .And (a :: b :: rest) pos) (tBoth f g) := by
  refine PW_imp (pw_and ha hb) fun σ H Q q => ?_
  obtain ⟨O, C, fr, res, fr', S, e, k, ke⟩ := q
  refine tT_bnd S e ke fun b fr1 H1 e S1 x1 p1 ke => ?_
  cases b with
  | true =>
    rw [if_pos rfl]
    exact ⟨O, C, fr1, res, fr', S1, by simpa using e, fun r hr H2 S2 x2 p2 => k r hr H2 S2 (x1.trans x2) (p1.trans p2), ke⟩
  | false =>
    rw [if_neg Bool.false_ne_true]
    cases e
    exact k _ rfl H1 S1 x1 p1
theorem pwd_or {a b : Expr} {rest : List Expr} {f g : TF} {pos : Pos} (ha : PDT X E a f) (hb : PDW X E (.BoolOp .Or (b :: rest) pos) g) : PDW X E (.BoolOp .Or (a :: b :: rest) pos) (tAny f g) := by
  refine PW_imp (pw_or ha hb) fun σ H Q q => ?_
  obtain ⟨O, C, fr, res, fr', S, e, k, ke⟩ := q
  refine tT_bnd S e ke fun b fr1 H1 e S1 x1 p1 ke => ?_
  cases b with
  | false =>
    rw [if_neg Bool.false_ne_true]
    exact ⟨O, C, fr1, res, fr', S1, by simpa using e, fun r hr H2 S2 x2 p2 => k r hr H2 S2 (x1.trans x2) (p1.trans p2), ke⟩
  | true =>
    rw [if_pos rfl]
    cases e
    exact k _ rfl H1 S1 x1 p1
theorem ptd_of_w {e : Expr} {f : TF} (h : PDW X E e f) : PDT X E e f := PW.pt h

/-! ### truths as values, a if t else b, - -/
def eNo (f : EF) : EF := M.bnd f fun r => match r with
  | .d (.bl b) => M.ret (.d (.bl (!b)))
  | _ => M.stk
def eBoth (f g : EF) : EF := M.bnd f fun r => match r with
  | .d (.bl b) => if b then g else M.ret (.d (.bl false))
  | _ => M.stk
def eAny (f g : EF) : EF := M.bnd f fun r => match r with
  | .d (.bl b) => if b then M.ret (.d (.bl true)) else g
  | _ => M.stk
def eIf (t : TF) (f g : EF) : EF := M.bnd t fun b => if b then f else g
def eNeg (f : EF) : EF := M.bnd f fun r => match r with
  | .d (.int i) => M.ret (.d (.int (-i)))
  | _ => M.stk
section
variable {W : Wd} {O : Addr → Prop} {C : Ct} {σ : L2.St} {fr0 fr fr' : Frm} {H H0 : Hp} {g : EF} {res : Rs RV} {Q : VK}
/-- the rest of an expression -/
theorem tD_on (S : Sim W O C σ fr H) (e : g fr = some (res, fr')) (ke : KE W E O C σ H fr' res) (x : Ext O H0 O H) (p : Pat fr0 fr) (k : KO W O C σ H0 fr0 fr' res Q) : tD W E g σ H Q :=
  ⟨O, C, fr, res, fr', S, e, fun r hr v H2 S2 x2 p2 o2 => k r hr v H2 S2 (x.trans x2) (p.trans p2) o2, ke⟩
end
theorem pd_not {a : Expr} {f : EF} {pos : Pos} (h : PD X E a f) : PD X E (.UnaryOp .Not a pos) (eNo f) := by
  refine PE_imp (pe_not h) fun σ H Q q => ?_
  obtain ⟨O, C, fr, res, fr', S, e, k, ke⟩ := q
  refine tD_bnd S e ke fun x fr1 v H1 e S1 x1 p1 ok1 ke => ?_
  split at e
  · rename_i b
    cases e
    exact ⟨b, by simpa only [RvOk, Rp] using ok1, k _ rfl _ H1 S1 x1 p1 (by simp only [RvOk, Rp])⟩
  · cases e
theorem pd_one {a : Expr} {op : BoolOp} {f : EF} {pos : Pos} (h : PD X E a f) : PD X E (.BoolOp op [a] pos) f := pe_one h
theorem pd_and {a b : Expr} {rest : List Expr} {f g : EF} {pos : Pos} (ha : PD X E a f) (hb : PD X E (.BoolOp .And (b :: rest) pos) g) : PD X E (.BoolOp .And (a :: b :: rest) pos) (eBoth f g) := by
  refine PE_imp (pe_and ha hb) fun σ H Q q => ?_
  obtain ⟨O, C, fr, res, fr', S, e, k, ke⟩ := q
  refine tD_bnd S e ke fun x fr1 v H1 e S1 x1 p1 ok1 ke => ?_
  split at e
  · rename_i b
    refine ⟨b, by simpa only [RvOk, Rp] using ok1, ?_⟩
    cases b with
    | true => rw [if_pos rfl]; exact tD_on S1 (by simpa using e) ke x1 p1 k
    | false =>
      rw [if_neg Bool.false_ne_true]
      cases e
      exact k _ rfl _ H1 S1 x1 p1 (by simp only [RvOk, Rp])
  · cases e
theorem pd_or {a b : Expr} {rest : List Expr} {f g : EF} {pos : Pos} (ha : PD X E a f) (hb : PD X E (.BoolOp .Or (b :: rest) pos) g) : PD X E (.BoolOp .Or (a :: b :: rest) pos) (eAny f g) := by
  refine PE_imp (pe_or ha hb) fun σ H Q q => ?_
  obtain ⟨O, C, fr, res, fr', S, e, k, ke⟩ := q
  refine tD_bnd S e ke fun x fr1 v H1 e S1 x1 p1 ok1 ke => ?_
  split at e
  · rename_i b
    refine ⟨b, by simpa only [RvOk, Rp] using ok1, ?_⟩
    cases b with
    | false => rw [if_neg Bool.false_ne_true]; exact tD_on S1 (by simpa using e) ke x1 p1 k
    | true =>
      rw [if_pos rfl]
      cases e
      exact k _ rfl _ H1 S1 x1 p1 (by simp only [RvOk, Rp])
  · cases e
theorem pd_if {c a b : Expr} {t : TF} {f g : EF} {pos : Pos} (hc : PDT X E c t) (ha : PD X E a f) (hb : PD X E b g) : PD X E (.IfExp c a b pos) (eIf t f g) := by
  refine PE_imp (pe_ifExp hc ha hb) fun σ H Q q => ?_
  obtain ⟨O, C, fr, res, fr', S, e, k, ke⟩ := q
  refine tT_bnd S e ke fun b fr1 H1 e S1 x1 p1 ke => ?_
  cases b with
  | true => rw [if_pos rfl]; exact tD_on S1 (by simpa using e) ke x1 p1 k
  | false => rw [if_neg Bool.false_ne_true]; exact tD_on S1 (by simpa using e) ke x1 p1 k
theorem pd_neg {a : Expr} {f : EF} {pos : Pos} (h : PD X E a f) : PD X E (.UnaryOp .USub a pos) (eNeg f) := by
  refine PE_imp (pe_un un_neg h) fun σ H Q q => ?_
  obtain ⟨O, C, fr, res, fr', S, e, k, ke⟩ := q
  refine tD_bnd S e ke fun x fr1 v H1 e S1 x1 p1 ok1 ke => ?_
  split at e
  · rename_i i
    cases e
    exact ⟨i, by simpa only [RvOk, Rp] using ok1, k _ rfl _ H1 S1 x1 p1 (by simp only [RvOk, Rp])⟩
  · cases e
/-- a < b <= c -/
def eChain (g g' : g2) (fa fb fc : EF) : EF := M.bnd fa fun x => M.bnd fb fun y => fun fr => match snap fr x, snap fr y with
  | some d, some e => match g d e with
    | some (.bl true) => (M.bnd fc fun z => fun fr2 => match snap fr2 y, snap fr2 z with
      | some e2, some z2 => (g' e2 z2).map fun w => (.ok (.d w), fr2)
      | _, _ => none) fr
    | some (.bl false) => some (.ok (.d (.bl false)), fr)
    | _ => none
  | _, _ => none
theorem pd_chain {a b c : Expr} {op op' : CmpOp} {r r' : R2} {g g' : g2} {fa fb fc : EF} {pos : Pos} (ho : OpR X (compareOp op) r) (hg : OpD (wd X) r g) (ho' : OpR X (compareOp op') r') (hg' : OpD (wd X) r' g')
    (ha : PD X E a fa) (hb : PD X E b fb) (hc : PD X E c fc) (hm : lastMarks [op, op'] [b, c] = false := by with_unfolding_all rfl) : PD X E (.Compare a [op, op'] [b, c] pos) (eChain g g' fa fb fc) := by
  refine PE_imp (pe_chain ho ho' ha hb hc hm) fun σ H Q q => ?_
  obtain ⟨O, C, fr, res, fr', S, e, k, ke⟩ := q
  refine tD_bnd S e ke fun x fr1 v H1 e S1 x1 p1 ok1 ke => ?_
  refine tD_bnd S1 e ke fun y fr2 u H2 e S2 x2 p2 ok2 ke => ?_
  cases q1 : snap fr2 x with
  | none => rw [q1] at e; cases e
  | some d =>
    cases q2 : snap fr2 y with
    | none => rw [q1, q2] at e; cases e
    | some d2 =>
      simp only [q1, q2] at e
      cases q3 : g d d2 with
      | none => simp only [q3] at e; cases e
      | some w0 =>
        simp only [q3] at e
        refine hg O H2 d d2 _ v u _ S2.trk (snap_ok S2 (ok1.go x2 p2) q1) (snap_ok S2 ok2 q2) q3 fun w H' kk hw => ?_
        cases w0 with
        | bl c =>
          refine ⟨c, by simpa only [Rp] using hw, ?_⟩
          cases c with
          | true =>
            rw [if_pos rfl]
            have e3 : Ext O H2 O H' := Ext.same kk
            refine tD_bnd (S2.more kk) e (ke.go e3) fun z fr3 t H3 e S3 x3 p3 ok3 ke => ?_
            exact bin_last hg' S3 e (((x1.trans x2).trans e3).trans x3) ((p1.trans p2).trans p3) ((ok2.go e3 .refl).go x3 p3) ok3 k
          | false =>
            rw [if_neg Bool.false_ne_true]
            cases e
            exact k _ rfl _ H' (S2.more kk) ((x1.trans x2).trans (Ext.same kk)) (p1.trans p2) (by simp only [RvOk, Rp])
        | _ => cases e

/-! ### arguments, tuples, lists -/
def aNil : AF := M.ret []
def aCons (f : EF) (g : AF) : AF := M.bnd f fun r => M.bnd g fun rs => M.ret (r :: rs)
theorem pda_nil : PDA X E [] aNil := by
  refine PA_imp pa_nil fun σ H Q q => ?_
  obtain ⟨O, C, fr, res, fr', S, e, k, ke⟩ := q
  cases e
  exact k _ rfl [] H S .refl .refl rfl
theorem pda_cons {e : Expr} {es : List Expr} {f : EF} {g : AF} (ha : PD X E e f) (hr : PDA X E es g) (hs : starEach (e :: es) X.env = (false, eval e X.env) :: starEach es X.env := by rfl) : PDA X E (e :: es) (aCons f g) := by
  refine PA_imp (pa_cons ha hr hs) fun σ H Q q => ?_
  obtain ⟨O, C, fr, res, fr', S, e, k, ke⟩ := q
  refine tD_bnd S e ke fun x fr1 v H1 e S1 x1 p1 ok1 ke => ?_
  refine tA_bnd S1 e ke fun y fr2 u H2 e S2 x2 p2 ok2 ke => ?_
  cases e
  exact k _ rfl _ H2 S2 (x1.trans x2) (p1.trans p2) ⟨v, u, rfl, ok1.go x2 p2, ok2⟩
def datas : List RV → Option (List DV)
  | [] => some []
  | .d x :: rs => (datas rs).map (x :: ·)
  | .own _ :: _ => none
theorem datas_ok {W : Wd} {O : Addr → Prop} {H : Hp} {σ : L2.St} {fr : Frm} : ∀ {rs : List RV} {ds : List DV} {vs : List V}, datas rs = some ds → RvsOk W O H σ fr rs vs → Rps W O H ds vs
  | [], ds, vs, e, h => by cases e; simp only [RvsOk] at h; subst h; exact Rps.nil
  | .d x :: rs, ds, vs, e, ⟨v, ws, h1, h2, h3⟩ => by
    simp only [datas] at e
    cases q : datas rs with
    | none => rw [q] at e; cases e
    | some es =>
      rw [q] at e; cases e
      subst h1
      exact Rps.cons h2 (datas_ok q h3)
  | .own i :: rs, ds, vs, e, h => by cases e
def eTup (f : AF) : EF := M.bnd f fun rs => match datas rs with
  | some ds => if ds.length ≤ LIM then M.ret (.d (.tup ds)) else M.stk
  | none => M.stk
theorem pd_tup {es : List Expr} {f : AF} {k0 : Nat} {pos : Pos} (h : PDA X E es f) : PD X E (.Tuple es k0 pos) (eTup f) := by
  refine PE_imp (pe_tup h) fun σ H Q q => ?_
  obtain ⟨O, C, fr, res, fr', S, e, k, ke⟩ := q
  refine tA_bnd S e ke fun x fr1 v H1 e S1 x1 p1 ok1 ke => ?_
  cases q1 : datas x with
  | none => simp only [q1] at e; cases e
  | some ds =>
    simp only [q1] at e
    split at e
    · rename_i hl
      cases e
      have r := datas_ok q1 ok1
      refine ⟨by rw [← r.len]; exact lim_le hl, fun p hp => ?_⟩
      refine k _ rfl _ _ (S1.more (keep_new hp)) (x1.trans (Ext.upd hp)) p1 ?_
      exact Rp.tupNew (S1.fresh hp) (Rps.ext (Ext.upd hp) _ _ r)
    · cases e
end

/-! ### new lists -/
abbrev LF := M (List DV)
def tL (W : Wd) (E : XK) (f : LF) : TE := fun σ H Q => ∃ O C fr res fr', Sim W O C σ fr H ∧ f fr = some (res, fr') ∧
  (∀ ds, res = .ok ds → ∀ p vs H', Sim W (fun a => O a ∨ a = p) C σ fr' H' → Ext O H (fun a => O a ∨ a = p) H' → Pat fr fr' → ¬ O p → C.H0 p = none → H' p = some (.lst vs) → Rps W (fun a => O a ∨ a = p) H' ds vs → Q (.ref p) H') ∧ KE W E O C σ H fr' res
abbrev PDL (X : Cx) (E : XK) (e : Expr) (f : LF) : Prop := PE X e (tL (wd X) E f)
def eLst (f : LF) : EF := M.bnd f fun ds => M.ret (.d (.lst ds))
section
variable {X : Cx} {E : XK}
theorem tL_bnd {W : Wd} {O : Addr → Prop} {H : Hp} {C : Ct} {σ : L2.St} {fr fr' : Frm} {β : Type} {res : Rs β} {f : LF} {g : List DV → M β} {Q : VK} (S : Sim W O C σ fr H) (e : M.bnd f g fr = some (res, fr')) (ke : KE W E O C σ H fr' res)
    (k : ∀ ds fr1 p vs H1, g ds fr1 = some (res, fr') → Sim W (fun a => O a ∨ a = p) C σ fr1 H1 → Ext O H (fun a => O a ∨ a = p) H1 → Pat fr fr1 → ¬ O p → C.H0 p = none → H1 p = some (.lst vs) → Rps W (fun a => O a ∨ a = p) H1 ds vs → Q (.ref p) H1) : tL W E f σ H Q := by
  unfold M.bnd at e
  cases q : f fr with
  | none => rw [q] at e; cases e
  | some p =>
    obtain ⟨r, fr1⟩ := p
    rw [q] at e
    cases r with
    | ok r =>
      refine ⟨O, C, fr, .ok r, fr1, S, q, fun r' hr p vs H1 S1 e1 p1 n1 n2 h1 r1 => ?_, fun x hx => (by cases hx)⟩
      cases hr
      exact k r fr1 p vs H1 e S1 e1 p1 n1 n2 h1 r1
    | ex x =>
      cases e
      refine ⟨O, C, fr, .ex x, fr', S, q, fun r' hr => (by cases hr), fun y hy c d H' S1 e1 ok => ?_⟩
      cases hy
      exact ke x rfl c d H' S1 e1 ok
/-- hands off one list fewer -/
theorem Sim.less {W : Wd} {O : Addr → Prop} {C : Ct} {σ : L2.St} {fr : Frm} {H : Hp} {p : Addr} (S : Sim W (fun a => O a ∨ a = p) C σ fr H) (hs : ∀ a, C.O0 a → O a) (hB : ∀ a, C.B a → O a)
    (hp : ∀ (i : Nat) (l : Bool) (xs : List DV), fr[i]? = some (some (.own l xs)) → σ[i]? ≠ some (some (.ref p))) : Sim W O C σ fr H := by
  have k : ∀ a, O a → O a ∨ a = p := fun a h => .inl h
  refine ⟨fun i x h => ?_, fun i l xs h => ?_, S.inj, fun a h => S.trk a (k a h), S.keep, S.len, hs, S.trk0, hB⟩
  · obtain ⟨v, h1, h2⟩ := S.dat i x h
    exact ⟨v, h1, Rp.off k x v h2⟩
  · obtain ⟨a, vs, h1, h2, h3, h4, h5⟩ := S.own i l xs h
    refine ⟨a, vs, h1, ?_, h3, Rps.off k xs vs h4, h5⟩
    rcases h2 with h2 | h2
    · exact h2
    · subst h2; exact absurd h1 (hp i l xs h)
/-- hands off one list more -/
theorem Sim.also {W : Wd} {O : Addr → Prop} {C : Ct} {σ : L2.St} {fr : Frm} {H : Hp} {p : Addr} {o : HO} (S : Sim W O C σ fr H) (hp : H p = none) : Sim W (fun a => O a ∨ a = p) C σ fr (upd H p o) := by
  have e : Ext O H (fun a => O a ∨ a = p) (upd H p o) := ⟨fun _ h => .inl h, fun a h => h.elim .inl fun z => .inr (by rw [z]; exact hp), fun b x _ h => keep_new hp b x h⟩
  refine ⟨fun i x h => ?_, fun i l xs h => ?_, S.inj, fun a h => ?_, fun b x n h => keep_new hp b x (S.keep b x n h), S.len, fun a h => .inl (S.sub0 a h), S.trk0, fun a h => .inl (S.subB a h)⟩
  · obtain ⟨v, h1, h2⟩ := S.dat i x h
    exact ⟨v, h1, Rp.ext e x v h2⟩
  · obtain ⟨a, vs, h1, h2, h3, h4, h5⟩ := S.own i l xs h
    exact ⟨a, vs, h1, .inl h2, keep_new hp _ _ h3, Rps.ext e xs vs h4, h5⟩
  · rcases h with h | h
    · cases q : H a with
      | none => exact absurd q (S.trk a h)
      | some x => rw [keep_new hp a x q]; exact fun z => by cases z
    · rw [h, upd_same]; exact fun z => by cases z
theorem ext_also {O : Addr → Prop} {H : Hp} {p : Addr} {o : HO} (hp : H p = none) : Ext O H (fun a => O a ∨ a = p) (upd H p o) :=
  ⟨fun _ h => .inl h, fun a h => h.elim .inl fun z => .inr (by rw [z]; exact hp), fun b x _ h => keep_new hp b x h⟩
/-- the entry knew nothing of it -/
theorem Sim.unborn {W : Wd} {O : Addr → Prop} {C : Ct} {σ : L2.St} {fr : Frm} {H : Hp} {p : Addr} (S : Sim W O C σ fr H) (hp : H p = none) : C.H0 p = none := by
  cases q : C.H0 p with
  | none => rfl
  | some o => rw [S.keep p o (fun z => S.trk p (S.subB p z) hp) q] at hp; cases hp
end
end DL
set_option maxRecDepth 100000
namespace DL
open PySem PySem.Spec PyProof.Rows L2
section
variable {X : Cx} {E : XK}
def lDisp (f : AF) : LF := M.bnd f fun rs => match datas rs with
  | some ds => if ds.length ≤ LIM then M.ret ds else M.stk
  | none => M.stk
theorem pl_disp {es : List Expr} {f : AF} {pos : Pos} (h : PDA X E es f) : PDL X E (.List es pos) (lDisp f) := by
  refine PE_imp (pe_lst h) fun σ H Q q => ?_
  obtain ⟨O, C, fr, res, fr', S, e, k, ke⟩ := q
  refine tA_bnd S e ke fun x fr1 v H1 e S1 x1 p1 ok1 ke => ?_
  cases q1 : datas x with
  | none => simp only [q1] at e; cases e
  | some ds =>
    simp only [q1] at e
    split at e
    · rename_i hl
      cases e
      have r := datas_ok q1 ok1
      refine ⟨by rw [← r.len]; exact lim_le hl, fun p hp => ?_⟩
      exact k ds rfl p v _ (S1.also hp) (x1.trans (ext_also hp)) p1 (S1.fresh hp) (S1.unborn hp) upd_same (Rps.ext (ext_also hp) _ _ r)
    · cases e
/-- a new list kept as data -/
theorem pd_lst {e : Expr} {f : LF} (h : PDL X E e f) : PD X E e (eLst f) := by
  refine PE_imp h fun σ H Q q => ?_
  obtain ⟨O, C, fr, res, fr', S, e, k, ke⟩ := q
  refine tL_bnd S e ke fun ds fr1 p vs H1 e S1 x1 p1 n1 n2 h1 r1 => ?_
  cases e
  have S2 : Sim (wd X) O C σ fr' H1 := S1.less S.sub0 S.subB fun i l xs hi z => by
    obtain ⟨ys, hy⟩ := (p1 i).2.2 l xs hi
    obtain ⟨a, us, q1, q2, _⟩ := S.own i l ys hy
    rw [z] at q1; cases q1
    exact n1 q2
  refine k _ rfl _ _ S2 ⟨fun _ h => h, fun _ h => .inl h, x1.fut⟩ p1 ?_
  simp only [RvOk, Rp]
  exact ⟨p, vs, rfl, ⟨n1, h1⟩, Rps.off (fun _ h => .inl h) _ _ r1⟩

/-! ### subscripts -/
def seqOf : DV → Option (List DV)
  | .lst xs => some xs
  | .scr xs => some xs
  | .tup xs => some xs
  | _ => none
theorem seqOf_ok {W : Wd} {O : Addr → Prop} {H : Hp} {d : DV} {xs : List DV} {v : V} (e : seqOf d = some xs) (h : RpW W O H d v) : ∃ a vs, v = .ref a ∧ (SqL W.K H a vs ∨ SqT W.K H a vs) ∧ Rps W O H xs vs := by
  cases d <;> simp only [seqOf] at e <;> cases e
  · obtain ⟨a, vs, h1, h2, h3⟩ := h.lst
    exact ⟨a, vs, h1, .inl (SqL.of h2), h3⟩
  · obtain ⟨a, vs, h1, h2, h3⟩ := h.scr
    exact ⟨a, vs, h1, .inl h2, h3⟩
  · obtain ⟨a, vs, h1, h2, h3⟩ := h.tup
    exact ⟨a, vs, h1, .inr h2.sq, h3⟩
def gIx : g2 := fun x y => match y with
  | .int i => match x with
    | .str z => if z.length ≤ LIM then (atI z.cps.toList i).map fun c => .str ⟨#[c]⟩ else none
    | x => (seqOf x).bind fun xs => atI xs i
  | _ => none
theorem atI_ok {W : Wd} {O : Addr → Prop} {H : Hp} {xs : List DV} {vs : List V} {i : Int} {d : DV} (r : Rps W O H xs vs) (e : atI xs i = some d) : ∃ v, atI vs i = some v ∧ Rp W O H d v := by
  unfold atI at e ⊢
  rw [← r.len]
  cases q : ixN xs.length i with
  | none => rw [q] at e; cases e
  | some j =>
    rw [q] at e
    exact r.get e
def rIxA (K : PySem.W.Frag) : R2 := fun x y H Q => rIxL K x y H Q ∨ rIxT K x y H Q ∨ rIxS x y H Q
theorem od_ix : OpD (wd X) (rIxA X.K) gIx := by
  intro O H x y z v u Q hO hx hy e k
  unfold gIx at e
  split at e
  · rename_i i
    rw [hy.int]
    split at e
    · rename_i s
      split at e
      · rename_i hl
        cases q : atI s.cps.toList i with
        | none => rw [q] at e; cases e
        | some c =>
          rw [q] at e; cases e
          rw [hx.str]
          exact .inr (.inr ⟨s, i, c, rfl, rfl, lim_le hl, q, Want.str k⟩)
      · cases e
    · cases q : seqOf x with
      | none => rw [q] at e; cases e
      | some xs =>
        rw [q] at e
        obtain ⟨a, vs, e1, h2, r⟩ := seqOf_ok q hx
        obtain ⟨w, h3, h4⟩ := atI_ok r e
        rw [e1]
        rcases h2 with h2 | h2
        · exact .inl ⟨a, vs, i, w, rfl, rfl, h2, h3, Want.here k h4⟩
        · exact .inr (.inl ⟨a, vs, i, w, rfl, rfl, h2, h3, Want.here k h4⟩)
  · cases e
theorem pd_ix {a b : Expr} {fa fb : EF} {pos : Pos} (ha : PD X E a fa) (hb : PD X E b fb) (hs : PlainIx b) : PD X E (.Subscript a b pos) (eBin gIx fa fb) := by
  refine PE_imp (pe_ix (ix_seq (X := X)) ha hb hs) fun σ H Q h => ?_
  obtain ⟨O, C, fr, res, fr', S, e, k, ke⟩ := h
  refine tD_bnd S e ke fun x fr1 v H1 e S1 x1 p1 ok1 ke => ?_
  refine tD_bnd S1 e ke fun y fr2 u H2 e S2 x2 p2 ok2 ke => ?_
  exact bin_last (r := rIxA X.K) od_ix S2 e (x1.trans x2) (p1.trans p2) (ok1.go x2 p2) ok2 k

/-! ### slices -/
abbrev OF := M (Option Int)
def oNone : OF := M.ret none
def oSome (f : EF) : OF := M.bnd f fun r => match r with
  | .d (.int i) => M.ret (some i)
  | _ => M.stk
def tO' (W : Wd) (E : XK) (f : OF) : TO := fun σ H Q => ∃ O C fr res fr', Sim W O C σ fr H ∧ f fr = some (res, fr') ∧
  (∀ r, res = .ok r → ∀ H', Sim W O C σ fr' H' → Ext O H O H' → Pat fr fr' → Q r H') ∧ KE W E O C σ H fr' res
abbrev PDO (X : Cx) (E : XK) (e : Option Expr) (f : OF) : Prop := PO X e (tO' (wd X) E f)
theorem PO_imp {e : Option Expr} {t t' : TO} (h : PO X e t) (k : ∀ σ H Q, t' σ H Q → t σ H Q) : PO X e t' := ⟨fun pins s σ H Q I q => h.run pins s σ H Q I (k σ H Q q)⟩
theorem pdo_none : PDO X E none oNone := by
  refine PO_imp po_none fun σ H Q h => ?_
  obtain ⟨O, C, fr, res, fr', S, e, k, ke⟩ := h
  cases e
  exact k _ rfl H S .refl .refl
theorem pdo_some {e : Expr} {f : EF} (h : PD X E e f) : PDO X E (some e) (oSome f) := by
  refine PO_imp (po_some h) fun σ H Q h => ?_
  obtain ⟨O, C, fr, res, fr', S, e, k, ke⟩ := h
  refine tD_bnd S e ke fun x fr1 v H1 e S1 x1 p1 ok1 ke => ?_
  split at e
  · rename_i i
    cases e
    exact ⟨i, by simpa only [RvOk, Rp] using ok1, k _ rfl H1 S1 x1 p1⟩
  · cases e
theorem tO_bnd {W : Wd} {O : Addr → Prop} {H : Hp} {C : Ct} {σ : L2.St} {fr fr' : Frm} {β : Type} {res : Rs β} {f : OF} {g : Option Int → M β} {Q : Option Int → Hp → Prop} (S : Sim W O C σ fr H) (e : M.bnd f g fr = some (res, fr')) (ke : KE W E O C σ H fr' res)
    (k : ∀ r fr1 H1, g r fr1 = some (res, fr') → Sim W O C σ fr1 H1 → Ext O H O H1 → Pat fr fr1 → KE W E O C σ H1 fr' res → Q r H1) : tO' W E f σ H Q := by
  unfold M.bnd at e
  cases q : f fr with
  | none => rw [q] at e; cases e
  | some p =>
    obtain ⟨r, fr1⟩ := p
    rw [q] at e
    cases r with
    | ok r =>
      refine ⟨O, C, fr, .ok r, fr1, S, q, fun r' hr H1 S1 e1 p1 => ?_, fun x hx => (by cases hx)⟩
      cases hr
      exact k r fr1 H1 e S1 e1 p1 (ke.go e1)
    | ex x =>
      cases e
      refine ⟨O, C, fr, .ex x, fr', S, q, fun r' hr => (by cases hr), fun y hy c d H' S1 e1 ok => ?_⟩
      cases hy
      exact ke x rfl c d H' S1 e1 ok
def cutD (xs : List DV) (lo hi : Option Int) : List DV := (xs.drop (HT.sIx xs.length 0 lo)).take (HT.sIx xs.length xs.length hi - HT.sIx xs.length 0 lo)
theorem cutD_ok {W : Wd} {O : Addr → Prop} {H : Hp} {xs : List DV} {vs : List V} (r : Rps W O H xs vs) (lo hi : Option Int) : Rps W O H (cutD xs lo hi) (cutV vs lo hi) := by
  unfold cutD cutV
  rw [r.len]
  exact (r.drop _).take _
theorem cutD_all {xs : List DV} {lo hi : Option Int} (h : HT.sIx xs.length 0 lo = 0 ∧ HT.sIx xs.length xs.length hi = xs.length) : cutD xs lo hi = xs := by
  unfold cutD
  rw [h.1, h.2]
  simp
def gSl (d : DV) (lo hi : Option Int) : Option DV := match d with
  | .lst xs => some (.lst (cutD xs lo hi))
  | .scr xs => some (.lst (cutD xs lo hi))
  | .tup xs => some (.tup (cutD xs lo hi))
  | .str z => if z.length ≤ LIM then some (.str (cutS z lo hi)) else none
  | _ => none
def rSlAll (K : PySem.W.Frag) : V → Option Int → Option Int → Hp → VK → Prop := fun x lo hi H Q => rSlL K x lo hi H Q ∨ rSlA K x lo hi H Q ∨ rSlS x lo hi H Q
theorem sl_all : SlR X (rSlAll X.K) := sl_list.or (sl_tupA.or sl_str)
theorem sl_ok {O : Addr → Prop} {H : Hp} {x z : DV} {v : V} {lo hi : Option Int} {Q : VK} (hO : ∀ a, O a → H a ≠ none) (hx : RpW (wd X) O H x v) (e : gSl x lo hi = some z) (k : Want (wd X) O H z Q) : rSlAll X.K v lo hi H Q := by
  unfold gSl at e
  split at e
  · cases e
    obtain ⟨a, vs, h1, h2, h3⟩ := hx.lst
    exact .inl ⟨a, vs, h1, SqL.of h2, fun p hp => Want.lst hO k (cutD_ok h3 lo hi) hp⟩
  · cases e
    obtain ⟨a, vs, h1, h2, h3⟩ := hx.scr
    exact .inl ⟨a, vs, h1, h2, fun p hp => Want.lst hO k (cutD_ok h3 lo hi) hp⟩
  · cases e
    obtain ⟨a, vs, h1, h2, h3⟩ := hx.tup
    refine .inr (.inl ⟨a, vs, h1, h2.sq, fun hw => ?_, fun _ p hp => Want.tup hO k (cutD_ok h3 lo hi) hp⟩)
    rw [← h3.len] at hw
    rw [cutD_all hw] at k
    exact Want.here k (by simp only [Rp]; exact ⟨a, vs, rfl, h2, h3⟩)
  · split at e
    · rename_i hl
      cases e
      rw [hx.str]
      exact .inr (.inr ⟨_, rfl, lim_le hl, Want.str k⟩)
    · cases e
  · cases e
def eSl (f : EF) (lo hi : OF) : EF := M.bnd f fun x => M.bnd lo fun l => M.bnd hi fun u => fun fr => match snap fr x with
  | some d => (gSl d l u).map fun z => (.ok (.d z), fr)
  | none => none
theorem pd_sl {e : Expr} {lo hi : Option Expr} {f : EF} {gl gu : OF} {p2 pos : Pos} (he : PD X E e f) (hl : PDO X E lo gl) (hu : PDO X E hi gu) : PD X E (.Subscript e (.Slice lo hi none p2) pos) (eSl f gl gu) := by
  refine PE_imp (pe_slice sl_all he hl hu) fun σ H Q h => ?_
  obtain ⟨O, C, fr, res, fr', S, e, k, ke⟩ := h
  refine tD_bnd S e ke fun x fr1 v H1 e S1 x1 p1 ok1 ke => ?_
  refine tO_bnd S1 e ke fun l fr2 H2 e S2 x2 p2 ke => ?_
  refine tO_bnd S2 e ke fun u fr3 H3 e S3 x3 p3 ke => ?_
  have ok3 := (ok1.go x2 p2).go x3 p3
  cases q1 : snap fr3 x with
  | none => simp only [q1] at e; cases e
  | some d =>
    simp only [q1] at e
    cases q2 : gSl d l u with
    | none => simp only [q2] at e; cases e
    | some z =>
      simp only [q2, Option.map_some] at e
      cases e
      refine sl_ok S3.trk (snap_ok S3 ok3 q1) q2 fun w H' kk hw => ?_
      exact k _ rfl w H' (S3.more kk) (((x1.trans x2).trans x3).trans (Ext.same kk)) ((p1.trans p2).trans p3) hw
end
end DL
set_option maxRecDepth 100000
set_option maxHeartbeats 1000000
namespace DL
open PySem PySem.Spec PyProof.Rows L2
/-! ### t[::-1] -/
section
variable {prog : Program} {w : World} {A : Around} {E : Value → Shared → Prop} {s : Shared}
theorem fm_congr {α β : Type} {f g : α → Option β} : ∀ {l : List α}, (∀ x ∈ l, f x = g x) → l.filterMap f = l.filterMap g
  | [], _ => rfl
  | a :: l, h => by
    rw [List.filterMap_cons, List.filterMap_cons, h a List.mem_cons_self, fm_congr fun x hx => h x (List.mem_cons_of_mem _ hx)]
theorem rev_places (n : Nat) : Builtin.Slice.slicePlaces ((n : Int) - 1) (-1) (-1) = n := by
  unfold Builtin.Slice.slicePlaces
  have h1 : ¬ ((-1 : Int) > 0) := by omega
  simp only [h1, if_false]
  have h2 : -(-1 : Int) = 1 := by decide
  rw [h2, Int.ediv_one]
  split <;> omega
theorem rev_pick (xs : Array Value) : ((List.range xs.size).filterMap fun (m : Nat) => xs[(((xs.size : Int) - 1) + (m : Int) * (-1)).toNat]?).toArray = xs.toList.reverse.toArray := by
  congr 1
  apply List.ext_getElem?
  intro i
  have key : ∀ m, m < xs.size → xs[(((xs.size : Int) - 1) + (m : Int) * (-1)).toNat]? = xs.toList.reverse[m]? := fun m hm => by
    have e : (((xs.size : Int) - 1) + (m : Int) * (-1)).toNat = xs.size - 1 - m := by omega
    rw [e, List.getElem?_reverse (by simpa using hm)]
    simp
  have all : (List.range xs.size).filterMap (fun (m : Nat) => xs[(((xs.size : Int) - 1) + (m : Int) * (-1)).toNat]?) = xs.toList.reverse := by
    have h1 : (List.range xs.size).filterMap (fun (m : Nat) => xs[(((xs.size : Int) - 1) + (m : Int) * (-1)).toNat]?) = (List.range xs.size).filterMap (fun m => xs.toList.reverse[m]?) := by
      apply fm_congr
      intro m hm
      exact key m (List.mem_range.mp hm)
    rw [h1]
    have h2 : xs.size = xs.toList.reverse.length := by simp
    rw [h2]
    generalize xs.toList.reverse = l
    induction l with
    | nil => rfl
    | cons a l ih =>
      rw [List.length_cons, List.range_succ_eq_map, List.filterMap_cons]
      simp only [List.getElem?_cons_zero, List.filterMap_map]
      congr 1
  rw [all]
theorem getItem_tuple_back {t sl : Addr} {items : Array Value} {u : Tok} {Q : Value → Shared → Prop} (ht : IsTup s.heap t items) (hs : s.heap.IsSliceOf sl .none .none (.int (-1) u))
    (h : Q (.ref s.heap.objs.size) { s with heap := s.heap.push { cls := .type "tuple", data := .seq items.toList.reverse.toArray } }) (hsz : items.size ≤ sizeLine) : wpAny (model prog w) A (getItem (.ref t) (.ref sl)) Q E s := by
  obtain ⟨o1, h1, h2, h3⟩ := id hs
  unfold getItem
  try with_reducible refine wpAny_holding ?_
  first | refine wpAny_bind (wpAny_pure ?_) | skip
  refine wpAny_bind (wpAny_sequenceKey ht.typeIs (by decide) ?_)
  refine wpAny_bind (wpAny_callSpecial?_slot (name := Str.ofString "__getitem__") ht.typeIs PyProof.Rows.slot_tuple_getitem (wpAny_call_entry PyProof.Rows.slot_tuple_getitem ht.typeIs entry_tuple_getitem ?_ (args_tuple_getitem _ _)))
  show wpAny _ _ (Builtin.Tuple.tupleItemsOf (.ref t) >>= _) _ _ s
  refine wpAny_bind (tupleItemsOf_ ht (wpAny_bind (wpAny_typeOf (T := "slice") ⟨o1, h1, h2⟩ ?_)))
  rw [if_pos (by decide)]
  have part : wpAny (model prog w) A.in1 (Builtin.Slice.sliceApplied (.ref sl) (pure (items.size : Int))) (fun r s' => r = ((items.size : Int) - 1, (-1 : Int), items.size) ∧ s' = s)
      (fun e s' => False) s := by
    unfold Builtin.Slice.sliceApplied Builtin.Slice.sliceFields
    refine wpAny_bind (wpAny_bind (wpAny_field h1 h3 (x := .none) rfl (wpAny_bind (wpAny_field h1 h3 (x := .none) rfl (wpAny_bind (wpAny_field h1 h3 (x := .int (-1) u) rfl (wpAny_pure ?_)))))))
    refine wpAny_bind (slicePart_int ?_)
    show wpAny _ _ (if ((-1 : Int) == 0) = true then _ else _) _ _ s
    rw [if_neg (by decide)]
    refine wpAny_bind (slicePart_none (wpAny_bind (slicePart_none (wpAny_bind (wpAny_pure ?_)))))
    have e1 : Builtin.Slice.sliceAdjust none none (-1) (items.size : Int) = ((items.size : Int) - 1, -1) := rfl
    show wpAny _ _ (match Builtin.Slice.sliceAdjust none none (-1) (items.size : Int) with | (lo, hi) => pure (lo, (-1 : Int), Builtin.Slice.slicePlaces lo hi (-1))) _ _ s
    rw [e1]
    show wpAny _ _ (pure ((items.size : Int) - 1, (-1 : Int), Builtin.Slice.slicePlaces ((items.size : Int) - 1) (-1) (-1))) _ _ s
    rw [rev_places]
    exact wpAny_pure ⟨rfl, rfl⟩
  refine wpAny_bind (wpAny_mono part (fun r s' hr => ?_) fun e s' z => z.elim)
  obtain ⟨er, es⟩ := hr
  subst er; subst es
  have no : ¬ ((((items.size : Int) - 1) == 0 && (-1 : Int) == 1 && items.size == items.size) = true) := by
    rw [show ((-1 : Int) == 1) = false from by decide]
    simp
  show wpAny _ _ (if (((items.size : Int) - 1) == 0 && (-1 : Int) == 1 && items.size == items.size) = true then _ else _) _ _ s'
  rw [if_neg no, rev_pick]
  have sz : sizeOk (.seq items.toList.reverse.toArray) := by
    show items.toList.reverse.toArray.size ≤ sizeLine
    simpa using hsz
  first
    | exact wpAny_bind (m := Builtin.Tuple.tupleExact _) (wpAny_newObj_type (wpAny_pure ⟨_, rfl, wpAny_pure h⟩) sz)
    | exact wpAny_bind (m := Builtin.Tuple.tupleExact _) (wpAny_newObj_type (wpAny_bind (wpAny_pure (wpAny_pure ⟨_, rfl, wpAny_pure h⟩))) sz)
    | exact wpAny_bind (wpAny_bind (m := Builtin.Tuple.tupleExact _) (wpAny_newObj_type (wpAny_pure (wpAny_pure ⟨_, rfl, wpAny_pure h⟩)) sz))
    | exact wpAny_bind (wpAny_bind (m := Builtin.Tuple.tupleExact _) (wpAny_newObj_type (wpAny_pure ⟨_, rfl, wpAny_pure h⟩) sz))
end
end DL
namespace DL
open PySem PySem.Spec PyProof.Rows L2
section
variable {X : Cx} {E : XK}
def tRevA (K : PySem.W.Frag) (te : TE) : TE := fun σ H Q => te σ H fun x H1 => ∃ a xs, x = .ref a ∧ ((SqL K H1 a xs ∧ ∀ p, H1 p = none → Q (.ref p) (upd H1 p (.lst xs.reverse))) ∨ (SqT K H1 a xs ∧ ∀ p, H1 p = none → Q (.ref p) (upd H1 p (.tup xs.reverse))))
theorem pe_revA {e : Expr} {te : TE} {k : Nat} {p1 p2 p3 pos : Pos} (he : PE X e te) : PE X (.Subscript e (.Slice none none (some (.UnaryOp .USub (.Constant (.int 1) k p1) p2)) p3) pos) (tRevA X.K te) := by
  refine ⟨fun pins s σ H Q I h => Subscript_ (thn (he.run pins s σ H _ I h) fun v s1 h1 => ?_)⟩
  obtain ⟨x, H1, I1, r1, a, xs, ex, hx⟩ := h1
  subst ex
  cases r1
  have minus : PO X (some (.UnaryOp .USub (.Constant (.int 1) k p1) p2)) (tPart (tUn (rU fun i => .int (-i)) (tC (.int 1)))) := po_some (pe_un un_neg pe_int)
  refine wpAny_Slice (thn ((po_none (X := X)).run pins s1 σ H1 (fun o H2 => o = none ∧ H2 = H1) I1 ⟨rfl, rfl⟩) fun vl s2 h2 => ?_)
  obtain ⟨l, H2, I2, pl, el, e2⟩ := h2
  subst el; subst e2
  refine thn ((po_none (X := X)).run pins s2 σ H2 (fun o H3 => o = none ∧ H3 = H2) I2 ⟨rfl, rfl⟩) fun vu s3 h3 => ?_
  obtain ⟨u, H3, I3, pu, eu, e3⟩ := h3
  subst eu; subst e3
  refine thn (minus.run pins s3 σ H3 (fun o H4 => o = some (-1) ∧ H4 = H3) I3 ⟨1, rfl, -1, rfl, rfl, rfl⟩) fun vs s4 h4 => ?_
  obtain ⟨o, H4, I4, ps, eo, e4⟩ := h4
  subst eo; subst e4
  have I5 : Inv X pins σ H4 { s4 with heap := s4.heap.push { cls := .type "slice", data := .fields #[vl, vu, vs] } } := I4.kept (t' := s4.toks) fun b ob q => Heap.get?_push_of_some _ q
  show wpAny (model X.prog X.w) X.A (subscriptTail e (.Slice none none (some (.UnaryOp .USub (.Constant (.int 1) k p1) p2)) p3) (.ref a) (.ref s4.heap.objs.size)) (EP X pins σ Q) X.xe { s4 with heap := s4.heap.push { cls := .type "slice", data := .fields #[vl, vu, vs] } }
  rcases hx with ⟨hx, q⟩ | ⟨hx, q⟩
  · obtain ⟨its, r, ht, hz⟩ := I5.list hx
    have hlen := r.length
    refine tail_any (ops := [.ref a, .ref s4.heap.objs.size]) ht.isList.typeIs (PySem.slot_list_getitem.lookup) (wpAny_getItem_list_slice ht.isList (Heap.IsSliceOf.new _ vl vu vs) pl pu ps (by decide) ?_ (by rw [List.size_toArray]; omega)) (by with_unfolding_all rfl)
    rw [PySem.W.krv_pick]
    exact ⟨.ref _, _, I5.laid (t' := s4.toks) (o := .lst xs.reverse) (fun b ob q => Heap.get?_push_of_some _ q) (Nat.le_refl _) ⟨by rw [List.length_reverse]; exact hz, _, 0, r.reverse, Heap.get?_push_size _ rfl⟩, rfl, q _ (I5.hok.fresh (Nat.le_refl _))⟩
  · obtain ⟨its, r, ht, hz⟩ := I5.tuple hx
    have hlen := r.length
    cases pl
    cases pu
    cases ps
    refine tail_any (ops := [.ref a, .ref s4.heap.objs.size]) ht.typeIs (PyProof.Rows.slot_tuple_getitem.lookup) (getItem_tuple_back ht (Heap.IsSliceOf.new _ _ _ _) ?_ (by rw [List.size_toArray]; omega)) (by with_unfolding_all rfl)
    exact ⟨.ref _, _, I5.laid (t' := s4.toks) (o := .tup xs.reverse) (fun b ob q => Heap.get?_push_of_some _ q) (Nat.le_refl _) ⟨by rw [List.length_reverse]; exact hz, _, r.reverse, IsTup.new _ _⟩, rfl, q _ (I5.hok.fresh (Nat.le_refl _))⟩
def gRev : DV → Option DV
  | .lst xs => some (.lst xs.reverse)
  | .scr xs => some (.lst xs.reverse)
  | .tup xs => some (.tup xs.reverse)
  | _ => none
/-- a function of one value, read once -/
def e1 (g : DV → Option DV) (f : EF) : EF := M.bnd f fun x => fun fr => match snap fr x with
  | some d => (g d).map fun z => (.ok (.d z), fr)
  | none => none
theorem e1_last {W : Wd} {O : Addr → Prop} {C : Ct} {σ : L2.St} {fr fr' : Frm} {H : Hp} {g : DV → Option DV} {x : RV} {v : V} {res : Rs RV} {P : Prop} (S : Sim W O C σ fr H)
    (e : (match snap fr x with
      | some d => (g d).map fun z => (Rs.ok (RV.d z), fr)
      | none => none) = some (res, fr')) (h1 : RvOk W O H σ fr x v) (k : ∀ d z, RpW W O H d v → g d = some z → res = .ok (.d z) → fr' = fr → P) : P := by
  cases q1 : snap fr x with
  | none => rw [q1] at e; cases e
  | some d =>
    rw [q1] at e
    cases q3 : g d with
    | none => simp only [q3] at e; cases e
    | some z =>
      simp only [q3, Option.map_some] at e
      cases e
      exact k d z (snap_ok S h1 q1) q3 rfl rfl
theorem pd_rev {e : Expr} {f : EF} {k : Nat} {p1 p2 p3 pos : Pos} (he : PD X E e f) : PD X E (.Subscript e (.Slice none none (some (.UnaryOp .USub (.Constant (.int 1) k p1) p2)) p3) pos) (e1 gRev f) := by
  refine PE_imp (pe_revA he) fun σ H Q h => ?_
  obtain ⟨O, C, fr, res, fr', S, e, k, ke⟩ := h
  refine tD_bnd S e ke fun x fr1 v H1 e S1 x1 p1 ok1 ke => ?_
  refine e1_last S1 e ok1 fun d z hx g er ef => ?_
  subst ef; subst er
  have kk : Want (wd X) O H1 z Q := fun w H' kk hw => k _ rfl w H' (S1.more kk) (x1.trans (Ext.same kk)) p1 hw
  unfold gRev at g
  split at g
  · cases g
    obtain ⟨a, vs, h1, h2, h3⟩ := hx.lst
    exact ⟨a, vs, h1, .inl ⟨SqL.of h2, fun p hp => Want.lst S1.trk kk h3.rev hp⟩⟩
  · cases g
    obtain ⟨a, vs, h1, h2, h3⟩ := hx.scr
    exact ⟨a, vs, h1, .inl ⟨h2, fun p hp => Want.lst S1.trk kk h3.rev hp⟩⟩
  · cases g
    obtain ⟨a, vs, h1, h2, h3⟩ := hx.tup
    exact ⟨a, vs, h1, .inr ⟨h2.sq, fun p hp => Want.tup S1.trk kk h3.rev hp⟩⟩
  · cases g

/-! ### built-in functions by values -/
abbrev gA := List DV → Option DV
def CalD (W : Wd) (r : List V → Hp → VK → Prop) (g : gA) : Prop := ∀ (O : Addr → Prop) (H : Hp) (xs : List DV) (z : DV) (vs : List V) (Q : VK), (∀ a, O a → H a ≠ none) → List.length xs = List.length vs →
  (∀ (i : Nat) (x : DV) (v : V), xs[i]? = some x → vs[i]? = some v → RpW W O H x v) → g xs = some z → Want W O H z Q → r vs H Q
def snaps (fr : Frm) : List RV → Option (List DV)
  | [] => some []
  | r :: rs => match snap fr r, snaps fr rs with
    | some d, some ds => some (d :: ds)
    | _, _ => none
theorem snaps_ok {W : Wd} {O : Addr → Prop} {C : Ct} {σ : L2.St} {fr : Frm} {H : Hp} (S : Sim W O C σ fr H) : ∀ {rs : List RV} {ds : List DV} {vs : List V}, snaps fr rs = some ds → RvsOk W O H σ fr rs vs →
    ds.length = vs.length ∧ ∀ (i : Nat) (x : DV) (v : V), ds[i]? = some x → vs[i]? = some v → RpW W O H x v
  | [], ds, vs, e, h => by
    cases e; simp only [RvsOk] at h; subst h
    exact ⟨rfl, fun i x v h => by simp at h⟩
  | r :: rs, ds, vs, e, ⟨v, ws, h1, h2, h3⟩ => by
    simp only [snaps] at e
    split at e
    · rename_i d es q1 q2
      cases e
      subst h1
      obtain ⟨l, k⟩ := snaps_ok S q2 h3
      refine ⟨by rw [List.length_cons, List.length_cons, l], fun i x u hx hu => ?_⟩
      cases i with
      | zero =>
        simp at hx hu
        subst hx; subst hu
        exact snap_ok S h2 q1
      | succ i => exact k i x u (by simpa using hx) (by simpa using hu)
    · cases e
def eCal (g : gA) (f : AF) : EF := M.bnd f fun rs => fun fr => match snaps fr rs with
  | some ds => (g ds).map fun z => (.ok (.d z), fr)
  | none => none
theorem cal_last {W : Wd} {O : Addr → Prop} {C : Ct} {σ : L2.St} {fr fr' fr0 : Frm} {H H0 : Hp} {g : gA} {r : List V → Hp → VK → Prop} {rs : List RV} {vs : List V} {res : Rs RV} {Q : VK} (hg : CalD W r g) (S : Sim W O C σ fr H)
    (e : (match snaps fr rs with
      | some ds => (g ds).map fun z => (Rs.ok (RV.d z), fr)
      | none => none) = some (res, fr')) (e0 : Ext O H0 O H) (p0 : Pat fr0 fr) (h1 : RvsOk W O H σ fr rs vs) (k : KO W O C σ H0 fr0 fr' res Q) : r vs H Q := by
  cases q1 : snaps fr rs with
  | none => rw [q1] at e; cases e
  | some ds =>
    rw [q1] at e
    cases q3 : g ds with
    | none => simp only [q3] at e; cases e
    | some z =>
      simp only [q3, Option.map_some] at e
      cases e
      obtain ⟨l, kk⟩ := snaps_ok S q1 h1
      exact hg O H ds z vs Q S.trk l kk q3 fun w H' k2 hw => k _ rfl w H' (S.more k2) (e0.trans (Ext.same k2)) p0 hw
theorem pd_callB {id : String} {r : List V → Hp → VK → Prop} {g : gA} {x : Str} {p pos : Pos} {e : Expr} {es : List Expr} {f : AF} (hc : CallR X (.builtin id) r) (hD : CalD (wd X) r g) (hg : Gl X x) (hm : X.mg x = none) (hv : bootBuiltins x = some (.builtin id)) (ha : PDA X E (e :: es) f)
    (hn : x ≠ "__name__" := by decide) (hdb : (x == ("__debug__" : Str)) = false := by decide) (he : starEach (e :: es) X.env = (false, eval e X.env) :: starEach es X.env := by rfl) (hpl : (backTo pos (starEach es X.env)).any (·.1) = false := by rfl) : PD X E (.Call (.Name x p) (e :: es) [] pos) (eCal g f) := by
  refine PE_imp (pe_callB hc hg hm hv ha hn hdb he hpl) fun σ H Q h => ?_
  obtain ⟨O, C, fr, res, fr', S, e, k, ke⟩ := h
  refine tA_bnd S e ke fun x fr1 v H1 e S1 x1 p1 ok1 ke => ?_
  exact cal_last hD S1 e x1 p1 ok1 k
theorem pd_callTy {T : String} {r : List V → Hp → VK → Prop} {g : gA} {x : Str} {p pos : Pos} {e : Expr} {es : List Expr} {f : AF} (hc : CallR X (.type T) r) (hD : CalD (wd X) r g) (hg : Gl X x) (hm : X.mg x = none) (hv : bootBuiltins x = some (.type T)) (ha : PDA X E (e :: es) f)
    (hn : x ≠ "__name__" := by decide) (hdb : (x == ("__debug__" : Str)) = false := by decide) (he : starEach (e :: es) X.env = (false, eval e X.env) :: starEach es X.env := by rfl) (hpl : (backTo pos (starEach es X.env)).any (·.1) = false := by rfl) : PD X E (.Call (.Name x p) (e :: es) [] pos) (eCal g f) := by
  refine PE_imp (pe_callTy hc hg hm hv ha hn hdb he hpl) fun σ H Q h => ?_
  obtain ⟨O, C, fr, res, fr', S, e, k, ke⟩ := h
  refine tA_bnd S e ke fun x fr1 v H1 e S1 x1 p1 ok1 ke => ?_
  exact cal_last hD S1 e x1 p1 ok1 k
theorem pd_callFn {id : String} {r : List V → Hp → VK → Prop} {g : gA} {x : Str} {p pos : Pos} {e : Expr} {es : List Expr} {f : AF} (hc : CallR X (.builtin id) r) (hD : CalD (wd X) r g) (hg : Gl X x) (hm : X.mg x = some (.builtin id)) (ha : PDA X E (e :: es) f)
    (hdb : (x == ("__debug__" : Str)) = false := by decide) (he : starEach (e :: es) X.env = (false, eval e X.env) :: starEach es X.env := by rfl) (hpl : (backTo pos (starEach es X.env)).any (·.1) = false := by rfl) : PD X E (.Call (.Name x p) (e :: es) [] pos) (eCal g f) := by
  refine PE_imp (pe_callBfun hc hg hm ha hdb he hpl) fun σ H Q h => ?_
  obtain ⟨O, C, fr, res, fr', S, e, k, ke⟩ := h
  refine tA_bnd S e ke fun x fr1 v H1 e S1 x1 p1 ok1 ke => ?_
  exact cal_last hD S1 e x1 p1 ok1 k
end
end DL
set_option maxRecDepth 100000
set_option maxHeartbeats 1000000
namespace DL
open PySem PySem.Spec PyProof.Rows L2
/-! ### math.comb -/
theorem entry_comb : entryFor table "math.comb" = some Builtin.«math.comb» := entryFor_of_tree (by kernel_rfl)
theorem kind_comb : builtinKind "math.comb" = none := by kernel_rfl
theorem plain_comb : plainId "math.comb" = true := by decide +kernel
theorem args_comb (a b : Value) : argsOk "math.comb" ⟨[a, b], []⟩ := by unfold argsOk; kernel_rfl
def combV (n k : Int) : Int := Builtin.Math.fallingProduct n (min k (n - k)).toNat / Builtin.Math.fallingProduct (min k (n - k)) (min k (n - k)).toNat
theorem comb_run (n k : Int) (t u : Tok) (h0 : 0 ≤ k) (h1 : k ≤ n) (h2 : n ≤ 1000) (hz : (combV n k).natAbs.log2 < bitsLine) : Gives (Builtin.«math.comb» ⟨[.int n t, .int k u], []⟩) (.int (combV n k)) :=
  .of_wp fun M A E s Q h => by
    obtain ⟨hp, g, d, tk, os⟩ := s
    have c1 : ¬ n < 0 := by omega
    have c2 : ¬ k < 0 := by omega
    have c3 : ¬ k > n := by omega
    have c4 : ¬ min k (n - k) > Builtin.Math.maxSsize := by
      have : Builtin.Math.maxSsize ≥ 1000 := by decide
      omega
    have c5 : ¬ min k (n - k) > Builtin.Math.manyFactors := by
      have : Builtin.Math.manyFactors ≥ 1000 := by decide
      omega
    have c6 : ¬ min k (n - k) > 9000 := by omega
    wp_walk
    repeat (first
      | (refine wpAny_ite_false (decide_eq_false c1) ?_; wp_walk)
      | (refine wpAny_ite_false (decide_eq_false c2) ?_; wp_walk)
      | (refine wpAny_ite_false (decide_eq_false c3) ?_; wp_walk)
      | (refine wpAny_ite_false (decide_eq_false c4) ?_; wp_walk)
      | (refine wpAny_ite_false (decide_eq_false c5) ?_; wp_walk)
      | (refine wpAny_ite_false (decide_eq_false c6) ?_; wp_walk)
      | (refine wpAny_ite_false (decide_eq_false (Nat.not_le.mpr hz)) ?_; wp_walk))
    exact ⟨_, rfl, h⟩
section
variable {X : Cx}
def rComb : List V → Hp → VK → Prop := fun vs H Q => ∃ n k : Int, vs = [.int n, .int k] ∧ 0 ≤ k ∧ k ≤ n ∧ n ≤ 1000 ∧ (combV n k).natAbs.log2 < bitsLine ∧ Q (.int (combV n k)) H
theorem cr_comb : CallR X (.builtin "math.comb") rComb := by
  intro pins s σ H vs us Q I r h
  obtain ⟨a, b, e, h0, h1, h2, hz, q⟩ := h
  subst e
  obtain ⟨t, u, e⟩ := Vals.int2 r
  subst e
  exact call_function_meets kind_comb plain_comb entry_comb (args_comb _ _) (comb_run a b t u h0 h1 h2 hz).meets ⟨.int _, H, I.tok _, ⟨_, rfl⟩, q⟩
def rFact : List V → Hp → VK → Prop := fun vs H Q => ∃ n : Int, vs = [.int n] ∧ 0 ≤ n ∧ n ≤ 1000 ∧ (((Builtin.Math.factorialNat n.toNat : Nat) : Int)).natAbs.log2 < bitsLine ∧ Q (.int ((Builtin.Math.factorialNat n.toNat : Nat) : Int)) H
theorem cr_fact : CallR X (.builtin "math.factorial") rFact := by
  intro pins s σ H vs us Q I r h
  obtain ⟨a, e, h0, h1, hz, q⟩ := h
  subst e
  cases r with
  | cons r1 r2 =>
    cases r2
    obtain ⟨t, e⟩ := r1
    subst e
    have c1 : ¬ a > Builtin.Math.maxSsize := by
      have : Builtin.Math.maxSsize ≥ 1000 := by decide
      omega
    have c2 : ¬ a > Builtin.Math.manyFactors := by
      have : Builtin.Math.manyFactors ≥ 1000 := by decide
      omega
    exact PySem.W.mg_factorial c1 (by omega) c2 hz ⟨.int _, H, I.tok _, ⟨_, rfl⟩, q⟩

/-! ### the functions' data -/
theorem one_of {W : Wd} {O : Addr → Prop} {H : Hp} {x : DV} {vs : List V} (l : List.length [x] = List.length vs) (h : ∀ (i : Nat) (y : DV) (v : V), [x][i]? = some y → vs[i]? = some v → RpW W O H y v) : ∃ v, vs = [v] ∧ RpW W O H x v := by
  match vs, l with
  | [v], _ => exact ⟨v, rfl, h 0 x v rfl rfl⟩
theorem two_of {W : Wd} {O : Addr → Prop} {H : Hp} {x y : DV} {vs : List V} (l : List.length [x, y] = List.length vs) (h : ∀ (i : Nat) (z : DV) (v : V), [x, y][i]? = some z → vs[i]? = some v → RpW W O H z v) : ∃ v u, vs = [v, u] ∧ RpW W O H x v ∧ RpW W O H y u := by
  match vs, l with
  | [v, u], _ => exact ⟨v, u, rfl, h 0 x v rfl rfl, h 1 y u rfl rfl⟩
def fLen : gA
  | [x] => match x with
    | .str z => if z.length ≤ LIM then some (.int (z.length : Nat)) else none
    | x => (seqOf x).map fun xs => .int (xs.length : Nat)
  | _ => none
def rLenA (K : PySem.W.Frag) : List V → Hp → VK → Prop := fun xs H Q => (∃ p ys, xs = [.ref p] ∧ (SqL K H p ys ∨ SqT K H p ys) ∧ Q (.int ys.length) H) ∨ (∃ z, xs = [.str z] ∧ z.length ≤ sizeLine ∧ Q (.int z.length) H)
theorem cr_lenA : CallR X (.builtin "len") (rLenA X.K) := call_len_seq.or call_len_str
theorem cd_len : CalD (wd X) (rLenA X.K) fLen := by
  intro O H xs z vs Q hO l h e k
  unfold fLen at e
  split at e
  · rename_i x
    obtain ⟨v, ev, hx⟩ := one_of l h
    subst ev
    split at e
    · split at e
      · rename_i hl
        cases e
        rw [hx.str]
        exact .inr ⟨_, rfl, lim_le hl, Want.int k⟩
      · cases e
    · cases q : seqOf x with
      | none => rw [q] at e; cases e
      | some xs =>
        rw [q] at e; cases e
        obtain ⟨a, us, e1, h2, r⟩ := seqOf_ok q hx
        subst e1
        exact .inl ⟨a, us, rfl, h2, by rw [← r.len]; exact Want.int k⟩
  · cases e
def fAbs : gA
  | [.int i] => some (.int (if i < 0 then -i else i))
  | _ => none
theorem cd_abs : CalD (wd X) (fun xs H Q => ∃ i, xs = [V.int i] ∧ Q (.int (if i < 0 then -i else i)) H) fAbs := by
  intro O H xs z vs Q hO l h e k
  unfold fAbs at e
  split at e
  · cases e
    obtain ⟨v, ev, hx⟩ := one_of l h
    subst ev
    rw [hx.int]
    exact ⟨_, rfl, Want.int k⟩
  · cases e
def fMax : gA
  | [.int i, .int j] => some (.int (if j > i then j else i))
  | _ => none
def fMin : gA
  | [.int i, .int j] => some (.int (if j < i then j else i))
  | _ => none
theorem cd_max : CalD (wd X) (fun xs H Q => ∃ i j, xs = [V.int i, .int j] ∧ Q (.int (if j > i then j else i)) H) fMax := by
  intro O H xs z vs Q hO l h e k
  unfold fMax at e
  split at e
  · cases e
    obtain ⟨v, u, ev, hx, hy⟩ := two_of l h
    subst ev
    rw [hx.int, hy.int]
    exact ⟨_, _, rfl, Want.int k⟩
  · cases e
theorem cd_min : CalD (wd X) (fun xs H Q => ∃ i j, xs = [V.int i, .int j] ∧ Q (.int (if j < i then j else i)) H) fMin := by
  intro O H xs z vs Q hO l h e k
  unfold fMin at e
  split at e
  · cases e
    obtain ⟨v, u, ev, hx, hy⟩ := two_of l h
    subst ev
    rw [hx.int, hy.int]
    exact ⟨_, _, rfl, Want.int k⟩
  · cases e
def fInt : gA
  | [.int i] => some (.int i)
  | [.bl b] => some (.int (if b then 1 else 0))
  | _ => none
theorem cd_int : CalD (wd X) (fun xs H Q => (∃ i, xs = [V.int i] ∧ Q (.int i) H) ∨ ∃ k, xs = [V.bl k] ∧ Q (.int (if k then 1 else 0)) H) fInt := by
  intro O H xs z vs Q hO l h e k
  unfold fInt at e
  split at e
  · cases e
    obtain ⟨v, ev, hx⟩ := one_of l h
    subst ev
    rw [hx.int]
    exact .inl ⟨_, rfl, Want.int k⟩
  · cases e
    obtain ⟨v, ev, hx⟩ := one_of l h
    subst ev
    rw [hx.bl]
    exact .inr ⟨_, rfl, Want.int k⟩
  · cases e
def fGcd : gA
  | [.int i, .int j] => some (.int ((Nat.gcd i.natAbs j.natAbs : Nat) : Int))
  | _ => none
theorem cd_gcd : CalD (wd X) rGcd fGcd := by
  intro O H xs z vs Q hO l h e k
  unfold fGcd at e
  split at e
  · cases e
    obtain ⟨v, u, ev, hx, hy⟩ := two_of l h
    subst ev
    rw [hx.int, hy.int]
    exact ⟨_, _, rfl, Want.int k⟩
  · cases e
theorem small_bits {n : Nat} (h : n < 1000000) : n < bitsLine := Nat.lt_of_lt_of_le h (by decide)
def fFact : gA
  | [.int n] => if 0 ≤ n ∧ n ≤ 1000 ∧ (((Builtin.Math.factorialNat n.toNat : Nat) : Int)).natAbs.log2 < 1000000 then some (.int ((Builtin.Math.factorialNat n.toNat : Nat) : Int)) else none
  | _ => none
theorem cd_fact : CalD (wd X) rFact fFact := by
  intro O H xs z vs Q hO l h e k
  unfold fFact at e
  split at e
  · split at e
    · rename_i hc
      cases e
      obtain ⟨v, ev, hx⟩ := one_of l h
      subst ev
      rw [hx.int]
      exact ⟨_, rfl, hc.1, hc.2.1, small_bits hc.2.2, Want.int k⟩
    · cases e
  · cases e
def fComb : gA
  | [.int n, .int k] => if 0 ≤ k ∧ k ≤ n ∧ n ≤ 1000 ∧ (combV n k).natAbs.log2 < 1000000 then some (.int (combV n k)) else none
  | _ => none
theorem cd_comb : CalD (wd X) rComb fComb := by
  intro O H xs z vs Q hO l h e k
  unfold fComb at e
  split at e
  · split at e
    · rename_i hc
      cases e
      obtain ⟨v, u, ev, hx, hy⟩ := two_of l h
      subst ev
      rw [hx.int, hy.int]
      exact ⟨_, _, rfl, hc.1, hc.2.1, hc.2.2.1, small_bits hc.2.2.2, Want.int k⟩
    · cases e
  · cases e
/-- lists of truths, of whole numbers -/
def blsOf : List DV → Option (List Bool)
  | [] => some []
  | .bl b :: xs => (blsOf xs).map (b :: ·)
  | _ :: _ => none
theorem blsOf_ok {W : Wd} {O : Addr → Prop} {H : Hp} : ∀ {xs : List DV} {bs : List Bool} {vs : List V}, blsOf xs = some bs → Rps W O H xs vs → vs = bs.map V.bl
  | [], bs, vs, e, h => by
    cases e
    simp only [Rps] at h
    exact h
  | .bl b :: xs, bs, vs, e, h => by
    simp only [blsOf] at e
    cases q : blsOf xs with
    | none => rw [q] at e; cases e
    | some cs =>
      rw [q] at e; cases e
      simp only [Rps, Rp] at h
      obtain ⟨v, ws, h1, h2, h3⟩ := h
      subst h1; subst h2
      rw [blsOf_ok q h3]; rfl
  | .non :: _, _, _, e, _ => by cases e
  | .int _ :: _, _, _, e, _ => by cases e
  | .str _ :: _, _, _, e, _ => by cases e
  | .lst _ :: _, _, _, e, _ => by cases e
  | .scr _ :: _, _, _, e, _ => by cases e
  | .tup _ :: _, _, _, e, _ => by cases e
  | .fn _ :: _, _, _, e, _ => by cases e
  | .ty _ :: _, _, _, e, _ => by cases e
  | .dct :: _, _, _, e, _ => by cases e
def intsOf : List DV → Option (List Int)
  | [] => some []
  | .int b :: xs => (intsOf xs).map (b :: ·)
  | _ :: _ => none
theorem intsOf_ok {W : Wd} {O : Addr → Prop} {H : Hp} : ∀ {xs : List DV} {bs : List Int} {vs : List V}, intsOf xs = some bs → Rps W O H xs vs → vs = bs.map V.int
  | [], bs, vs, e, h => by
    cases e
    simp only [Rps] at h
    exact h
  | .int b :: xs, bs, vs, e, h => by
    simp only [intsOf] at e
    cases q : intsOf xs with
    | none => rw [q] at e; cases e
    | some cs =>
      rw [q] at e; cases e
      simp only [Rps, Rp] at h
      obtain ⟨v, ws, h1, h2, h3⟩ := h
      subst h1; subst h2
      rw [intsOf_ok q h3]; rfl
  | .non :: _, _, _, e, _ => by cases e
  | .bl _ :: _, _, _, e, _ => by cases e
  | .str _ :: _, _, _, e, _ => by cases e
  | .lst _ :: _, _, _, e, _ => by cases e
  | .scr _ :: _, _, _, e, _ => by cases e
  | .tup _ :: _, _, _, e, _ => by cases e
  | .fn _ :: _, _, _, e, _ => by cases e
  | .ty _ :: _, _, _, e, _ => by cases e
  | .dct :: _, _, _, e, _ => by cases e
def fAnyL : gA
  | [.lst xs] => (blsOf xs).map fun bs => .bl (bs.any id)
  | _ => none
def fAllL : gA
  | [.lst xs] => (blsOf xs).map fun bs => .bl (bs.all id)
  | _ => none
def fSum : gA
  | [.lst xs] => (intsOf xs).map fun bs => .int bs.sum
  | _ => none
theorem cd_any : CalD (wd X) (rAny X.K) fAnyL := by
  intro O H xs z vs Q hO l h e k
  unfold fAnyL at e
  split at e
  · rename_i ys
    cases q : blsOf ys with
    | none => rw [q] at e; cases e
    | some bs =>
      rw [q] at e; cases e
      obtain ⟨v, ev, hx⟩ := one_of l h
      obtain ⟨a, us, e1, h2, r⟩ := hx.lst
      subst ev; subst e1
      rw [blsOf_ok q r] at h2
      exact ⟨a, bs, rfl, SqL.of h2, Want.bl k⟩
  · cases e
theorem cd_all : CalD (wd X) (rAll X.K) fAllL := by
  intro O H xs z vs Q hO l h e k
  unfold fAllL at e
  split at e
  · rename_i ys
    cases q : blsOf ys with
    | none => rw [q] at e; cases e
    | some bs =>
      rw [q] at e; cases e
      obtain ⟨v, ev, hx⟩ := one_of l h
      obtain ⟨a, us, e1, h2, r⟩ := hx.lst
      subst ev; subst e1
      rw [blsOf_ok q r] at h2
      exact ⟨a, bs, rfl, SqL.of h2, Want.bl k⟩
  · cases e
theorem cd_sum : CalD (wd X) (rSum X.K) fSum := by
  intro O H xs z vs Q hO l h e k
  unfold fSum at e
  split at e
  · rename_i ys
    cases q : intsOf ys with
    | none => rw [q] at e; cases e
    | some bs =>
      rw [q] at e; cases e
      obtain ⟨v, ev, hx⟩ := one_of l h
      obtain ⟨a, us, e1, h2, r⟩ := hx.lst
      subst ev; subst e1
      rw [intsOf_ok q r] at h2
      exact ⟨a, bs, rfl, SqL.of h2, Want.int k⟩
  · cases e
def fTup : gA
  | [.lst xs] => some (.tup xs)
  | [.scr xs] => some (.tup xs)
  | [.tup xs] => some (.tup xs)
  | _ => none
def rTupA (K : PySem.W.Frag) : List V → Hp → VK → Prop := fun xs H Q => ∃ p ys, xs = [.ref p] ∧ ((SqL K H p ys ∧ ∀ l, H l = none → Q (.ref l) (upd H l (.tup ys))) ∨ (SqT K H p ys ∧ Q (.ref p) H))
theorem cr_tupA : CallR X (.type "tuple") (rTupA X.K) := call_tuple_of
theorem cd_tup : CalD (wd X) (rTupA X.K) fTup := by
  intro O H xs z vs Q hO l h e k
  unfold fTup at e
  split at e
  · cases e
    obtain ⟨v, ev, hx⟩ := one_of l h
    obtain ⟨a, us, e1, h2, r⟩ := hx.lst
    subst ev; subst e1
    exact ⟨a, us, rfl, .inl ⟨SqL.of h2, fun p hp => Want.tup hO k r hp⟩⟩
  · cases e
    obtain ⟨v, ev, hx⟩ := one_of l h
    obtain ⟨a, us, e1, h2, r⟩ := hx.scr
    subst ev; subst e1
    exact ⟨a, us, rfl, .inl ⟨h2, fun p hp => Want.tup hO k r hp⟩⟩
  · cases e
    obtain ⟨v, ev, hx⟩ := one_of l h
    obtain ⟨a, us, e1, h2, r⟩ := hx.tup
    subst ev; subst e1
    exact ⟨a, us, rfl, .inr ⟨h2.sq, Want.here k (by simp only [Rp]; exact ⟨a, us, rfl, h2, r⟩)⟩⟩
  · cases e
/-- isinstance -/
def tyN : DV → Option String
  | .non => some "NoneType"
  | .bl _ => some "bool"
  | .int _ => some "int"
  | .str _ => some "str"
  | .lst _ => some "list"
  | .tup _ => some "tuple"
  | .dct => some "dict"
  | _ => none
theorem tyN_ok {O : Addr → Prop} {H : Hp} {x : DV} {v : V} {n : String} (h : RpW (wd X) O H x v) (e : tyN x = some n) : TyX X.K H v (.type n) := by
  cases x <;> simp only [tyN] at e <;> cases e
  · rw [h.non]; exact .base .non
  · rw [h.bl]; exact .base (.bl _)
  · rw [h.int]; exact .base (.int _)
  · rw [h.str]; exact .base (.str _)
  · obtain ⟨a, us, e1, h2, _⟩ := h.lst
    subst e1
    exact .base (.lst h2)
  · obtain ⟨a, us, e1, h2, _⟩ := h.tup
    subst e1
    rcases h2.sq with (h3 | ⟨o, h3⟩) | ⟨o, its, n, h3, h4, _⟩
    · exact .base (.tup h3)
    · exact .fTuple h3
    · exact .kTuple h3 h4
  · obtain ⟨a, e1, h2⟩ := h.dct
    subst e1
    exact .base (.dK h2)
def kitD (a b : String) : Option Bool :=
  if b == "int" then some (a == "int" || a == "bool") else if b == "bool" then some (a == "bool") else if b == "str" then some (a == "str") else if b == "tuple" then some (a == "tuple") else if b == "list" then some (a == "list") else none
def fIsi : gA
  | [x, .ty c] => match tyN x with
    | some n => kitD n c
    | none => none
  | _ => none
  where kitD (a b : String) : Option DV := (DL.kitD a b).map .bl
theorem kitD_ok {x : DV} {a b : String} {r : Bool} (hn : tyN x = some a) (h : kitD a b = some r) : kitB a b = some r := by
  have cases_b : b = "int" ∨ b = "bool" ∨ b = "str" ∨ b = "tuple" ∨ b = "list" := by
    unfold kitD at h
    by_cases h1 : b = "int"
    · exact .inl h1
    · by_cases h2 : b = "bool"
      · exact .inr (.inl h2)
      · by_cases h3 : b = "str"
        · exact .inr (.inr (.inl h3))
        · by_cases h4 : b = "tuple"
          · exact .inr (.inr (.inr (.inl h4)))
          · by_cases h5 : b = "list"
            · exact .inr (.inr (.inr (.inr h5)))
            · simp [h1, h2, h3, h4, h5] at h
  rcases cases_b with e | e | e | e | e <;> subst e <;> cases x <;> simp only [tyN] at hn <;> cases hn <;> rw [← h] <;> decide +kernel
theorem cd_isi : CalD (wd X) (rIsi X.K) fIsi := by
  intro O H xs z vs Q hO l h e k
  unfold fIsi at e
  split at e
  · rename_i x c
    obtain ⟨v, u, ev, hx, hy⟩ := two_of l h
    subst ev
    split at e
    · rename_i n q
      unfold fIsi.kitD at e
      cases q2 : kitD n c with
      | none => rw [q2] at e; cases e
      | some b =>
        rw [q2] at e; cases e
        have hu : u = V.ty c := hy.ty
        subst hu
        exact ⟨v, _, .type n, .type c, b, rfl, .ty c, tyN_ok hx q, kit_ty (kitD_ok q q2), Want.bl k⟩
    · cases e
  · cases e
end
end DL
set_option maxRecDepth 100000
set_option maxHeartbeats 1000000
namespace DL
open PySem PySem.Spec PyProof.Rows L2
/-! ### targets -/
inductive Tg where
  | nm (i : Nat) | tp (ts : List Tg)
mutual
def Tg.slots : Tg → List Nat
  | .nm i => [i]
  | .tp ts => Tg.slotss ts
def Tg.slotss : List Tg → List Nat
  | [] => []
  | t :: ts => t.slots ++ Tg.slotss ts
end
mutual
def Tg.put : Tg → DV → Frm → Option Frm
  | .nm i, d, fr => if i < fr.length then some (fr.set i (some (.d d))) else none
  | .tp ts, d, fr => match d with
    | .tup ds => if ts.length = ds.length then Tg.puts ts ds fr else none
    | .lst ds => if ts.length = ds.length then Tg.puts ts ds fr else none
    | _ => none
def Tg.puts : List Tg → List DV → Frm → Option Frm
  | [], [], fr => some fr
  | t :: ts, d :: ds, fr => (t.put d fr).bind (Tg.puts ts ds)
  | _, _, _ => none
end
section
variable {W : Wd} {O : Addr → Prop} {C : Ct} {σ : L2.St} {fr : Frm} {H : Hp}
theorem Sim.set (S : Sim W O C σ fr H) {i : Nat} {d : DV} {v : V} (r : Rp W O H d v) (hi : i < fr.length) : Sim W O C (σ.set i (some v)) (fr.set i (some (.d d))) H := by
  have his : i < σ.length := by rw [← S.len]; exact hi
  refine ⟨fun j x h => ?_, fun j l xs h => ?_, fun j k l xs m ys a h1 h2 h3 h4 => ?_, S.trk, S.keep, by rw [List.length_set, List.length_set]; exact S.len, S.sub0, S.trk0, S.subB⟩
  · by_cases e : i = j
    · subst e
      rw [List.getElem?_set_self hi] at h
      cases h
      exact ⟨v, List.getElem?_set_self his, r⟩
    · rw [List.getElem?_set_ne e] at h
      rw [List.getElem?_set_ne e]
      exact S.dat j x h
  · by_cases e : i = j
    · subst e
      rw [List.getElem?_set_self hi] at h
      cases h
    · rw [List.getElem?_set_ne e] at h
      rw [List.getElem?_set_ne e]
      exact S.own j l xs h
  · by_cases e : i = j
    · subst e; rw [List.getElem?_set_self hi] at h1; cases h1
    · by_cases f : i = k
      · subst f; rw [List.getElem?_set_self hi] at h2; cases h2
      · rw [List.getElem?_set_ne e] at h1 h3
        rw [List.getElem?_set_ne f] at h2 h4
        exact S.inj j k l xs m ys a h1 h2 h3 h4
end
/-- the state behind a target's stores -/
def After (W : Wd) (O : Addr → Prop) (C : Ct) (σ : L2.St) (H : Hp) (fr' : Frm) (sl : List Nat) (Q : L2.St → Hp → Prop) : Prop :=
  ∀ σ', Sim W O C σ' fr' H → (∀ j, j ∉ sl → σ'[j]? = σ[j]?) → σ'.length = σ.length → Q σ' H
def tG (W : Wd) (T : Tg) : TG := fun v σ H Q => ∃ O C fr d fr', Sim W O C σ fr H ∧ Rp W O H d v ∧ T.put d fr = some fr' ∧ After W O C σ H fr' T.slots Q
def tGs (W : Wd) (Ts : List Tg) : TGs := fun vs σ H Q => ∃ O C fr ds fr', Sim W O C σ fr H ∧ Rps W O H ds vs ∧ Tg.puts Ts ds fr = some fr' ∧ After W O C σ H fr' (Tg.slotss Ts) Q
theorem PG_imp {X : Cx} {e : Expr} {t t' : TG} (h : PG X e t) (k : ∀ v σ H Q, t' v σ H Q → t v σ H Q) : PG X e t' := ⟨fun pins s σ H v u Q I r q => h.run pins s σ H v u Q I r (k v σ H Q q)⟩
theorem PGs_imp {X : Cx} {e : List Expr} {t t' : TGs} (h : PGs X e t) (k : ∀ v σ H Q, t' v σ H Q → t v σ H Q) : PGs X e t' := ⟨fun pins s σ H v u Q I r q => h.run pins s σ H v u Q I r (k v σ H Q q)⟩
section
variable {X : Cx}
abbrev PDG (X : Cx) (e : Expr) (T : Tg) : Prop := PG X e (tG (wd X) T)
abbrev PDGs (X : Cx) (es : List Expr) (Ts : List Tg) : Prop := PGs X es (tGs (wd X) Ts)
theorem gd_name {i : Nat} {x : Str} {pos : Pos} (hN : X.N.Nodup) (hi : X.N[i]? = some x) (hx : Loc X.env.scope x) (hf : X.fn x = true ∨ X.env.scope.names.lookup x = some .local := by first | exact .inl rfl | exact .inr rfl | assumption) : PDG X (.Name x pos) (.nm i) := by
  refine PG_imp (pg_name hN hi hx hf) fun v σ H Q h => ?_
  obtain ⟨O, C, fr, d, fr', S, r, e, k⟩ := h
  simp only [Tg.put] at e
  split at e
  · rename_i hl
    cases e
    refine k _ (S.set r hl) (fun j hj => ?_) (List.length_set ..)
    simp only [Tg.slots, List.mem_singleton] at hj
    rw [List.getElem?_set_ne (fun z => hj z.symm)]
  · cases e
theorem gds_nil : PDGs X [] [] := by
  refine PGs_imp pgs_nil fun v σ H Q h => ?_
  obtain ⟨O, C, fr, ds, fr', S, r, e, k⟩ := h
  cases ds with
  | nil =>
    simp only [Tg.puts] at e
    cases e
    simp only [Rps] at r
    exact ⟨r, k σ S (fun _ _ => rfl) rfl⟩
  | cons d ds => simp only [Tg.puts] at e; cases e
theorem gds_cons {e : Expr} {es : List Expr} {T : Tg} {Ts : List Tg} (h1 : PDG X e T) (h2 : PDGs X es Ts) (hs : (assignEach (e :: es) X.env).map (·.2) = assign e X.env :: (assignEach es X.env).map (·.2) := by rfl) : PDGs X (e :: es) (T :: Ts) := by
  refine PGs_imp (pgs_cons h1 h2 hs) fun v σ H Q h => ?_
  obtain ⟨O, C, fr, ds, fr', S, r, e, k⟩ := h
  cases ds with
  | nil => simp only [Tg.puts] at e; cases e
  | cons d ds =>
    simp only [Tg.puts] at e
    simp only [Rps] at r
    obtain ⟨w, ws, e1, r1, r2⟩ := r
    cases q : T.put d fr with
    | none => rw [q] at e; cases e
    | some f1 =>
      rw [q] at e
      refine ⟨w, ws, e1, O, C, fr, d, f1, S, r1, q, fun σ1 S1 k1 l1 => ?_⟩
      refine ⟨O, C, f1, ds, fr', S1, r2, e, fun σ2 S2 k2 l2 => ?_⟩
      refine k σ2 S2 (fun j hj => ?_) (l2.trans l1)
      simp only [Tg.slotss, List.mem_append, not_or] at hj
      rw [k2 j hj.2, k1 j hj.1]
def gSeq (K : PySem.W.Frag) (n : Nat) (t : TGs) : TG := fun v σ H Q => gTup K n t v σ H Q ∨ gUnl K n t v σ H Q
theorem pg_seq {es : List Expr} {k : Nat} {t : TGs} {n : Nat} {pos : Pos} (hc : X.calm = true) (h : PGs X es t) (hn : (assignEach es X.env).length = n := by rfl) (hst : (assignEach es X.env).findIdx? (·.1) = none := by rfl) : PG X (.Tuple es k pos) (gSeq X.K n t) := by
  refine ⟨fun pins s σ H v u Q I r hw => ?_⟩
  rcases hw with hw | hw
  · exact (pg_tup hc h hn hst).run pins s σ H v u Q I r hw
  · exact (pg_unl hc h hn hst).run pins s σ H v u Q I r hw
theorem gd_tup {es : List Expr} {Ts : List Tg} {k0 : Nat} {pos : Pos} (hc : X.calm = true) (h : PDGs X es Ts) (hn : (assignEach es X.env).length = Ts.length := by rfl) (hst : (assignEach es X.env).findIdx? (·.1) = none := by rfl) : PDG X (.Tuple es k0 pos) (.tp Ts) := by
  refine PG_imp (pg_seq hc h hn hst) fun v σ H Q q => ?_
  obtain ⟨O, C, fr, d, fr', S, r, e, k⟩ := q
  simp only [Tg.put] at e
  split at e
  · rename_i ds
    split at e
    · rename_i hl
      simp only [Rp] at r
      obtain ⟨a, xs, e1, h2, r1⟩ := r
      refine .inl ⟨a, xs, e1, h2.sq, by rw [← r1.len]; exact hl.symm, O, C, fr, ds, fr', S, r1, e, fun σ1 S1 k1 l1 => k σ1 S1 ?_ l1⟩
      simpa only [Tg.slots] using k1
    · cases e
  · rename_i ds
    split at e
    · rename_i hl
      simp only [Rp] at r
      obtain ⟨a, xs, e1, h2, r1⟩ := r
      refine .inr ⟨a, xs, e1, h2.sq, by rw [← r1.len]; exact hl.symm, O, C, fr, ds, fr', S, r1, e, fun σ1 S1 k1 l1 => k σ1 S1 ?_ l1⟩
      simpa only [Tg.slots] using k1
    · cases e
  · cases e
end

/-! ### what is walked -/
structure JD (W : Wd) (O : Addr → Prop) (J : It) (items : List DV) (H0 : Hp) : Prop where
  ex : ∃ Hold : (Addr → Prop) → Hp → Prop, Hold O H0 ∧ (∀ O1 H1 O2 H2, Hold O1 H1 → Ext O1 H1 O2 H2 → Hold O2 H2) ∧ (∀ i O1 H1, Hold O1 H1 → i < items.length → J.go i H1) ∧ (∀ O1 H1, Hold O1 H1 → J.stop items.length H1) ∧
    ∀ i O1 H1 x H2 d, Hold O1 H1 → items[i]? = some d → J.yld i H1 x H2 → (∀ a, O1 a → H1 a ≠ none) → (∀ b o, H1 b = some o → H2 b = some o) ∧ Rp W O1 H2 d x
abbrev IF := M (List DV)
def tI (W : Wd) (E : XK) (f : IF) : TI := fun σ H R => ∃ O C fr res fr', Sim W O C σ fr H ∧ f fr = some (res, fr') ∧
  (∀ items, res = .ok items → ∀ J H', Sim W O C σ fr' H' → Ext O H O H' → Pat fr fr' → JD W O J items H' → R J H') ∧ KE W E O C σ H fr' res
abbrev PDI (X : Cx) (E : XK) (tg iter : Expr) (f : IF) : Prop := PI X tg iter (tI (wd X) E f)
theorem PI_imp {X : Cx} {tg e : Expr} {t t' : TI} (h : PI X tg e t) (k : ∀ σ H Q, t' σ H Q → t σ H Q) : PI X tg e t' := ⟨fun pins s σ H Q I q => h.run pins s σ H Q I (k σ H Q q)⟩
/-- lists and tuples alike -/
def iSeq (K : PySem.W.Frag) (te : TE) : TI := fun σ H R => te σ H fun x H1 => ∃ a, x = .ref a ∧ (((∃ xs, SqL K H1 a xs) ∧ R (Itl K a) H1) ∨ ((∃ xs, SqT K H1 a xs) ∧ R (Itt K a) H1))
theorem pi_seq {X : Cx} {tg l : Expr} {tl : TE} (hl : PE X l tl) : PI X tg l (iSeq X.K tl) := by
  refine ⟨fun pins s σ H R I h => thn (hl.run pins s σ H _ I h) fun v s1 h1 => ?_⟩
  obtain ⟨x, H1, I1, r1, a, e, h2⟩ := h1
  subst e
  cases r1
  rcases h2 with ⟨⟨xs, hq⟩, q⟩ | ⟨⟨xs, hq⟩, q⟩
  · obtain ⟨its, rv, p, hz⟩ := I1.list hq
    refine wpAny_pyIter_list p.isList ⟨s1.heap.objs.size, [s1.heap.objs.size], _, _, H1, rfl, I1.kept (t' := s1.toks) fun b o e => Heap.get?_push_of_some _ e, turn_list a _, ⟨_, Heap.get?_push_size _ rfl, rfl, rfl⟩, fun b hb => ?_, q⟩
    have e : b = s1.heap.objs.size := List.mem_singleton.mp hb
    rw [e]
    exact I1.fpOk (Nat.le_refl _) (I1.hok.fresh (Nat.le_refl _))
  · obtain ⟨its, rv, p, hz⟩ := I1.tuple hq
    refine wpAny_pyIter_tuple (show s1.heap.IsTuple a its.toArray from p) ⟨s1.heap.objs.size, [s1.heap.objs.size], _, _, H1, rfl, I1.kept (t' := s1.toks) fun b o e => Heap.get?_push_of_some _ e, turn_tuple a _, ⟨_, Heap.get?_push_size _ rfl, rfl, rfl⟩, fun b hb => ?_, q⟩
    have e : b = s1.heap.objs.size := List.mem_singleton.mp hb
    rw [e]
    exact I1.fpOk (Nat.le_refl _) (I1.hok.fresh (Nat.le_refl _))
/-- data that is walked as it stands -/
inductive Walked (W : Wd) (O : Addr → Prop) (H : Hp) (a : Addr) (xs : List V) : Prop where
  | l (h : LsD O H a xs) : Walked W O H a xs
  | s (h : ScD W O H a xs) : Walked W O H a xs
theorem Walked.ext {W : Wd} {O O' : Addr → Prop} {H H' : Hp} {a : Addr} {xs : List V} (h : Walked W O H a xs) (e : Ext O H O' H') : Walked W O' H' a xs := by
  cases h with
  | l h => exact .l (h.ext e)
  | s h => exact .s (h.ext e)
theorem Walked.sq {W : Wd} {O : Addr → Prop} {H : Hp} {a : Addr} {xs : List V} (h : Walked W O H a xs) : SqL W.K H a xs := by
  cases h with
  | l h => exact h.sq
  | s h => exact h.sq
theorem jd_list {W : Wd} {O : Addr → Prop} {H : Hp} {a : Addr} {xs : List V} {items : List DV} (h : Walked W O H a xs) (r : Rps W O H items xs) : JD W O (Itl W.K a) items H := by
  refine ⟨fun O1 H1 => Walked W O1 H1 a xs ∧ Rps W O1 H1 items xs, ⟨h, r⟩, fun O1 H1 O2 H2 q e => ⟨q.1.ext e, Rps.ext e _ _ q.2⟩, fun i O1 H1 q hi => ?_, fun O1 H1 q => ⟨xs, q.1.sq, by rw [q.2.len]; exact Nat.le_refl _⟩, fun i O1 H1 x H2 d q hd y ho => ?_⟩
  · have hi' : i < xs.length := by rw [← q.2.len]; exact hi
    exact ⟨xs, xs[i], q.1.sq, List.getElem?_eq_getElem hi'⟩
  · obtain ⟨e, hy⟩ := y
    subst e
    obtain ⟨v, h1, h2⟩ := q.2.get hd
    have := hy xs q.1.sq
    rw [h1] at this; cases this
    exact ⟨fun _ _ z => z, h2⟩
theorem jd_tup {W : Wd} {O : Addr → Prop} {H : Hp} {a : Addr} {xs : List V} {items : List DV} (h : TpD W O H a xs) (r : Rps W O H items xs) : JD W O (Itt W.K a) items H := by
  refine ⟨fun O1 H1 => TpD W O1 H1 a xs ∧ Rps W O1 H1 items xs, ⟨h, r⟩, fun O1 H1 O2 H2 q e => ⟨q.1.ext e, Rps.ext e _ _ q.2⟩, fun i O1 H1 q hi => ?_, fun O1 H1 q => ⟨xs, q.1.sq, by rw [q.2.len]; exact Nat.le_refl _⟩, fun i O1 H1 x H2 d q hd y ho => ?_⟩
  · have hi' : i < xs.length := by rw [← q.2.len]; exact hi
    exact ⟨xs, xs[i], q.1.sq, List.getElem?_eq_getElem hi'⟩
  · obtain ⟨e, hy⟩ := y
    subst e
    obtain ⟨v, h1, h2⟩ := q.2.get hd
    have := hy xs q.1.sq
    rw [h1] at this; cases this
    exact ⟨fun _ _ z => z, h2⟩
def iOf (f : EF) : IF := M.bnd f fun r => match r with
  | .d x => M.of (seqOf x)
  | .own _ => M.stk
section
variable {X : Cx} {E : XK}
theorem id_seq {tg e : Expr} {f : EF} (h : PD X E e f) : PDI X E tg e (iOf f) := by
  refine PI_imp (pi_seq h) fun σ H R q => ?_
  obtain ⟨O, C, fr, res, fr', S, e, k, ke⟩ := q
  refine tD_bnd S e ke fun x fr1 v H1 e S1 x1 p1 ok1 ke => ?_
  cases x with
  | own i => cases e
  | d x =>
    simp only [M.of] at e
    cases q : seqOf x with
    | none => simp only [q] at e; cases e
    | some xs =>
      simp only [q] at e
      cases e
      simp only [RvOk] at ok1
      cases x <;> simp only [seqOf] at q <;> cases q <;> simp only [Rp] at ok1 <;> obtain ⟨a, vs, e1, h2, r⟩ := ok1 <;> subst e1
      · exact ⟨a, rfl, .inl ⟨⟨vs, h2.sq⟩, k _ rfl _ H1 S1 x1 p1 (jd_list (.l h2) r)⟩⟩
      · exact ⟨a, rfl, .inl ⟨⟨vs, h2.sq⟩, k _ rfl _ H1 S1 x1 p1 (jd_list (.s h2) r)⟩⟩
      · exact ⟨a, rfl, .inr ⟨⟨vs, h2.sq⟩, k _ rfl _ H1 S1 x1 p1 (jd_tup h2 r)⟩⟩
/-- lo, lo + 1, .. -/
def rangeD (lo : Int) (n : Nat) : List DV := (List.range n).map fun i => .int (lo + (i : Nat))
theorem jd_range {W : Wd} {O : Addr → Prop} {H : Hp} {lo : Int} {n : Nat} : JD W O (Itr lo n) (rangeD lo n) H := by
  refine ⟨fun O1 H1 => True, trivial, fun _ _ _ _ _ _ => trivial, fun i O1 H1 _ hi => ?_, fun O1 H1 _ => ?_, fun i O1 H1 x H2 d _ hd y _ => ?_⟩
  · show i < n
    simpa [rangeD] using hi
  · show n ≤ (rangeD lo n).length
    simp [rangeD]
  · obtain ⟨e1, e2⟩ := y
    subst e1; subst e2
    refine ⟨fun _ _ z => z, ?_⟩
    unfold rangeD at hd
    rw [List.getElem?_map] at hd
    cases q : (List.range n)[i]? with
    | none => rw [q] at hd; cases hd
    | some j =>
      rw [q] at hd; cases hd
      have : j = i := by
        have hi : i < (List.range n).length := by
          by_cases z : i < (List.range n).length
          · exact z
          · rw [List.getElem?_eq_none (by omega)] at q; cases q
        rw [List.getElem?_eq_getElem hi] at q
        cases q
        simp
      subst this
      simp only [Rp]
def iRg1 (f : AF) : IF := M.bnd f fun r => match r with
  | [.d (.int j)] => if -(LIM : Int) ≤ j ∧ j ≤ LIM then M.ret (rangeD 0 j.toNat) else M.stk
  | _ => M.stk
def iRg2 (f : AF) : IF := M.bnd f fun r => match r with
  | [.d (.int i), .d (.int j)] => if (-(LIM : Int) ≤ i ∧ i ≤ LIM) ∧ -(LIM : Int) ≤ j ∧ j ≤ LIM then M.ret (rangeD i (j - i).toNat) else M.stk
  | _ => M.stk
theorem lim_int : (LIM : Int) = 100000 := rfl
theorem id_range1 {tg a : Expr} {f : AF} {p pos : Pos} (hg : Gl X "range") (hm : X.mg "range" = none) (ha : PDA X E [a] f) (hs : starEach [a] X.env = [(false, eval a X.env)] := by rfl) : PDI X E tg (.Call (.Name "range" p) [a] [] pos) (iRg1 f) := by
  refine PI_imp (pi_range1 hg hm ha hs) fun σ H R q => ?_
  obtain ⟨O, C, fr, res, fr', S, e, k, ke⟩ := q
  refine tA_bnd S e ke fun x fr1 v H1 e S1 x1 p1 ok1 ke => ?_
  split at e
  · rename_i j
    split at e
    · rename_i hc
      cases e
      rw [lim_int] at hc
      obtain ⟨w, ws, e1, h2, h3⟩ := ok1
      simp only [RvsOk] at h3
      simp only [RvOk, Rp] at h2
      subst e1; subst h2; subst h3
      exact ⟨j, rfl, by omega, by omega, k _ rfl _ H1 S1 x1 p1 jd_range⟩
    · cases e
  · cases e
theorem id_range2 {tg a b : Expr} {f : AF} {p pos : Pos} (hg : Gl X "range") (hm : X.mg "range" = none) (ha : PDA X E [a, b] f) (hs : starEach [a, b] X.env = [(false, eval a X.env), (false, eval b X.env)] := by rfl) (hs2 : starEach [b] X.env = [(false, eval b X.env)] := by rfl) : PDI X E tg (.Call (.Name "range" p) [a, b] [] pos) (iRg2 f) := by
  refine PI_imp (pi_range2 hg hm ha hs hs2) fun σ H R q => ?_
  obtain ⟨O, C, fr, res, fr', S, e, k, ke⟩ := q
  refine tA_bnd S e ke fun x fr1 v H1 e S1 x1 p1 ok1 ke => ?_
  split at e
  · rename_i i j
    split at e
    · rename_i hc
      cases e
      rw [lim_int] at hc
      obtain ⟨w, ws, e1, h2, u, us, e2, h3, h4⟩ := ok1
      simp only [RvsOk] at h4
      simp only [RvOk, Rp] at h2 h3
      subst e1; subst h2; subst e2; subst h3; subst h4
      exact ⟨i, j, rfl, ⟨by omega, by omega, by omega, by omega⟩, k _ rfl _ H1 S1 x1 p1 jd_range⟩
    · cases e
  · cases e
end
end DL
set_option maxRecDepth 100000
set_option maxHeartbeats 1000000
/-! ### enumerate(tuple) -/
namespace DL
open PySem PySem.Spec PyProof.Rows L2
theorem meets_enum_one {v : Value} {o : Obj} {Z : Heap → Prop} (B : Begins v o Z) :
    Meets (Builtin.«enumerate.__new__» ⟨[.type "enumerate", v], []⟩) (fun _ R s => Z s.heap ∧
      R (.ok (.ret (.ref (s.heap.push o).objs.size))) { s with heap := (s.heap.push o).push { cls := .type "enumerate", data := .fields #[.none, .bool false, .ref s.heap.objs.size, rawInt 0, .none, .none] } }) :=
  .of_wp fun prog w A R s both => by
    obtain ⟨hp, gg, dd, kk, oo⟩ := s; obtain ⟨h1, h⟩ := both
    have hsub := sub_enumerate
    have q1 : ∀ {A' : Around} {E : Value → Shared → Prop} {Q : Value → Shared → Prop}, Q (.ref hp.objs.size) ⟨hp.push o, gg, dd, kk, oo⟩ → wpAny (model prog w) A' (pyIter v) Q E ⟨hp, gg, dd, kk, oo⟩ := fun q => B.iter prog w _ _ ⟨hp, gg, dd, kk, oo⟩ _ h1 q
    wp_walk using q1
    refine wpAny_stack_any fun st => wpAny_pure ?_
    split
    · rename_i c _ _ _ _ _
      cases (c == Value.type "enumerate") <;> (wp_walk using q1; exact ⟨_, rfl, h⟩)
    · wp_walk using q1
      exact ⟨_, rfl, h⟩
section
variable {prog : Program} {w : World} {A : Around} {E : Value → Shared → Prop} {s : Shared}
theorem enum_one {v : Value} {o : Obj} {Z : Heap → Prop} {Q : Value → Shared → Prop} (B : Begins v o Z) (h1 : Z s.heap)
    (h : ∀ h', IsEnum h' (s.heap.objs.size + 1) s.heap.objs.size 0 .none → h'.get? s.heap.objs.size = some o → (∀ b o, s.heap.get? b = some o → h'.get? b = some o) → Q (.ref (s.heap.objs.size + 1)) { s with heap := h' }) :
    wpAny (model prog w) A (call (.type "enumerate") [v]) Q E s := by
  have hz : (s.heap.push o).objs.size = s.heap.objs.size + 1 := Heap.size_push ..
  have he : IsEnum ((s.heap.push o).push { cls := .type "enumerate", data := .fields #[.none, .bool false, .ref s.heap.objs.size, rawInt 0, .none, .none] }) (s.heap.objs.size + 1) s.heap.objs.size 0 .none := by
    have q := Heap.get?_push_size (s.heap.push o) (o := { cls := .type "enumerate", data := .fields #[.none, .bool false, .ref s.heap.objs.size, rawInt 0, .none, .none] }) rfl
    rw [hz] at q; exact q
  refine callType_new F.called_enumerate (by decide) (F.typeCall_enumerate_1 _) (F.newCall_enumerate_1 _) (fun obj => F.args_object_init_2 obj _) F.entry_enumerate_new (meets_enum_one B) ⟨h1, ?_⟩
  show _ ∧ _
  rw [hz]
  exact ⟨⟨_, he, rfl⟩, h _ he (Heap.get?_push_of_some _ (Heap.get?_push_size _ B.free)) fun b o x => Heap.get?_push_of_some _ (Heap.get?_push_of_some _ x)⟩
end
def IteT (K : PySem.W.Frag) (a : Addr) : It :=
  ⟨fun i H => ∃ (xs : List V) (x : V), SqT K H a xs ∧ xs[i]? = some x, fun i H v H' => ∃ T x, v = .ref T ∧ H T = none ∧ H' = upd H T (.tup [.int (i : Nat), x]) ∧ ∀ xs, SqT K H a xs → xs[i]? = some x, fun i H => ∃ xs : List V, SqT K H a xs ∧ xs.length ≤ i⟩
theorem turn_enumT {P : Program} {w : World} {K : PySem.W.Frag} {elts : List Expr} {kk : Nat} {tpos : Pos} (a e it : Addr) :
    Turn P w K (.Tuple elts kk tpos) (IteT K a) [e, it] e (fun i h => (∃ old, IsEnum h e it ((i : Nat) : Int) old) ∧ h.IsTupleIter it a i ∧ e ≠ it) where
  mem := List.mem_cons_self
  obj := fun i h st b hb => by
    obtain ⟨⟨old, he⟩, ⟨o, ho, hc, hd⟩, _⟩ := st
    rcases List.mem_cons.mp hb with z | z
    · rw [z]; exact ⟨_, he, fun v q => nomatch q⟩
    · rw [List.mem_singleton.mp z]; exact ⟨o, ho, fun v q => by rw [hd] at q; cases q⟩
  keep := fun i h h' st k => by
    obtain ⟨⟨old, he⟩, hi, hne⟩ := st
    exact ⟨⟨old, k e (by simp) _ he⟩, hi.at fun o q => k it (by simp) o q, hne⟩
  item := by
    intro X hP hw hK hc i pins s σ H E I hf st hg
    subst hP hw hK
    obtain ⟨⟨old, he⟩, hit, hne⟩ := st
    obtain ⟨xs, x, hq, hx⟩ := hg
    obtain ⟨its, rv, p, hz⟩ := I.tuple hq
    obtain ⟨u, hu, ru⟩ := rv.get hx
    have hel : e < s.heap.objs.size := Heap.lt_size he
    have hil : it < s.heap.objs.size := by obtain ⟨_, q, _⟩ := hit; exact Heap.lt_size q
    have hal : ∃ o, s.heap.get? a = some o ∧ o.cls = .type "tuple" := by obtain ⟨o, q, c, _⟩ := p; exact ⟨o, q, c⟩
    have nae : e ≠ a := fun z => by
      obtain ⟨o, q, c⟩ := hal
      rw [← z, he] at q
      have := Option.some.inj q
      subst this
      injection c with c
      exact absurd c (by decide)
    have nai : a ≠ it := fun z => by
      obtain ⟨o, q, c⟩ := hal
      obtain ⟨o2, q2, c2, _⟩ := hit
      rw [z, q2] at q
      cases q
      rw [c2] at c
      injection c with c
      exact absurd c (by decide)
    have D := Draws.tuple (prog := X.prog) (w := X.w) (A := X.A.in1) (I.ok.hd hc) it a nai its.toArray
    have hlt : i < its.toArray.size := by
      by_cases z : i < its.toArray.size
      · exact z
      · rw [List.getElem?_eq_none (by simpa using z)] at hu; cases hu
    refine wpAny_pyNext_enum_itemD D he ⟨hit, p⟩ hlt hne (by simp [nae, hne]) fun y h' tk hy ho hit' hT hsz hk => ?_
    have ey : y = u := by
      have hy' : its[i]? = some y := by simpa using hy
      rw [hu] at hy'; cases hy'; rfl
    subst ey
    refine ⟨_, rfl, wpAny_letOwnedTupleGo_enum (s := { s with heap := h', toks := tk + 1 }) ho fun h'' he' sb => ?_⟩
    have hT2 : h''.get? s.heap.objs.size = some { cls := .type "tuple", data := .seq #[.int i tk, y] } := (sb.2 _ (Nat.ne_of_gt hel)).trans hT
    have new : ObjOk X.prog X.w (upd H s.heap.objs.size (.tup [.int (i : Nat), x])) h'' s.heap.objs.size (.tup [.int (i : Nat), x]) :=
      ⟨by show 2 ≤ sizeLine; decide, [.int i tk, y], .cons ⟨_, rfl⟩ (.cons ru .nil), ⟨_, hT2, rfl, _, rfl⟩⟩
    have I1 : Inv X pins σ (upd H s.heap.objs.size (.tup [.int (i : Nat), x])) { s with heap := h'', toks := tk + 1 } :=
      I.turnedNew (ch := [e, it]) (fun b ob hb q => (sb.2 b (fun z => hb (by simp [z]))).trans (hk b ob (fun z => hb (by simp [z])) (fun z => hb (by simp [z])) q)) hf (Nat.le_refl _) new
    refine ⟨.ref s.heap.objs.size, _, I1, rfl, ⟨_, x, rfl, I.hok.fresh (Nat.le_refl _), rfl, fun ys hy => by rw [I.tuple_inj hy hq]; exact hx⟩, ⟨⟨y, ?_⟩, hit'.1.at fun o q => (sb.2 it (Ne.symm hne)).trans q, hne⟩, fun b hb => ?_⟩
    · rw [show ((i + 1 : Nat) : Int) = (i : Int) + 1 by omega]; exact he'
    · have hb' : b < s.heap.objs.size := by
        rcases List.mem_cons.mp hb with z | z
        · rw [z]; exact hel
        · rw [List.mem_singleton.mp z]; exact hil
      rw [upd_ne (Nat.ne_of_lt hb')]
      exact (hf b hb).1
  done := by
    intro X hP hw hK hc i pins s σ H E I hf st hg
    subst hP hw hK
    obtain ⟨⟨old, he⟩, hit, hne⟩ := st
    obtain ⟨xs, hq, hx⟩ := hg
    obtain ⟨its, rv, p, hz⟩ := I.tuple hq
    obtain ⟨f0, f1, f2, f3, f4, f5⟩ := hf it (by simp)
    have hl := rv.length
    have hT : s.TypeIs (.ref e) "enumerate" := ⟨_, he, rfl⟩
    have hno : its.toArray[i]? = none := by
      rw [List.getElem?_toArray]
      exact List.getElem?_eq_none (by omega)
    unfold pyNext
    refine wpAny_bind (wpAny_attempt (wpAny_callSpecial?_slot (name := Str.ofString "__next__") hT F.slot_enumerate_next (wpAny_call_entry F.slot_enumerate_next hT F.entry_enumerate_next ?_ (F.args_enumerate_next_1 _))))
    show wpAny _ _ (field (.ref e) 2 >>= _) _ _ _
    refine wpAny_bind (wpAny_field he rfl (x := .ref it) rfl (wpAny_bind (wpAny_nextOf_tuple_end (I.ok.hd hc) hit p hno fun h' x he' hx' => ?_)))
    obtain ⟨o, ho, hcl⟩ := hx'
    exact wpAny_bind (wpAny_isInstance (T := "StopIteration") (b := true) ⟨o, ho, hcl⟩ isSubtype_stop (wpAny_pure ⟨rfl, I.turned (t' := s.toks) (fun b o hb q => he' b o hb q) f0 f1 f3 f4 f5⟩))
  self := fun A i s Q E st h => by
    obtain ⟨⟨_, he⟩, _⟩ := st
    exact wpAny_pyIter_enum he h
def iEnumA (K : PySem.W.Frag) (ta : TA) : TI := fun σ H R => ta σ H fun vs H1 => ∃ a xs, vs = [.ref a] ∧ ((SqL K H1 a xs ∧ R (Ite K a) H1) ∨ (SqT K H1 a xs ∧ R (IteT K a) H1))
theorem pi_enumA {X : Cx} {e : Expr} {ta : TA} {p pos tpos : Pos} {elts : List Expr} {kk : Nat} (hg : Gl X "enumerate") (hm : X.mg "enumerate" = none) (ha : PA X [e] ta) (hs : starEach [e] X.env = [(false, eval e X.env)] := by rfl) :
    PI X (.Tuple elts kk tpos) (.Call (.Name "enumerate" p) [e] [] pos) (iEnumA X.K ta) := by
  refine ⟨fun pins s σ H R I h => Call_ (ld_blt I hg hm boot_enumerate (PyProof.Rows.callWith_type1 (thn (ha.run pos pins s σ H _ I h) fun us s1 h1 => ?_) hs rfl))⟩
  obtain ⟨vs, H1, I1, r1, a, xs, ex, hq⟩ := h1
  subst ex
  cases r1 with
  | cons r rr =>
    cases rr
    cases r
    have new2 : ∀ {H1 : Hp} {b : Addr}, Inv X pins σ H1 s1 → b ∈ [s1.heap.objs.size + 1, s1.heap.objs.size] → FpOk X pins H1 b := fun {H1 b} I1 hb => by
      have hle : s1.heap.objs.size ≤ b := by
        rcases List.mem_cons.mp hb with z | z
        · rw [z]; exact Nat.le_succ _
        · rw [List.mem_singleton.mp z]; exact Nat.le_refl _
      exact I1.fpOk hle (I1.hok.fresh hle)
    rcases hq with ⟨hq, q⟩ | ⟨hq, q⟩
    · obtain ⟨its, rv, p', hz⟩ := I1.list hq
      refine call_enumerate_list p'.isList fun h' he hit hsz hk => wpAny_pyIter_enum he ?_
      exact ⟨s1.heap.objs.size + 1, [s1.heap.objs.size + 1, s1.heap.objs.size], _, _, H1, rfl, I1.kept (t' := s1.toks) hk, turn_enum a (s1.heap.objs.size + 1) s1.heap.objs.size, ⟨⟨.none, he⟩, hit, Nat.succ_ne_self _⟩, fun b hb => new2 I1 hb, q⟩
    · obtain ⟨its, rv, p', hz⟩ := I1.tuple hq
      refine enum_one (begins_tuple a its.toArray) p' fun h' he hit hk => wpAny_pyIter_enum he ?_
      exact ⟨s1.heap.objs.size + 1, [s1.heap.objs.size + 1, s1.heap.objs.size], _, _, H1, rfl, I1.kept (t' := s1.toks) hk, turn_enumT a (s1.heap.objs.size + 1) s1.heap.objs.size, ⟨⟨.none, he⟩, ⟨_, hit, rfl, rfl⟩, Nat.succ_ne_self _⟩, fun b hb => new2 I1 hb, q⟩
end DL
set_option maxRecDepth 100000
set_option maxHeartbeats 1000000
namespace DL
open PySem PySem.Spec PyProof.Rows L2
/-! ### enumerate, zip as data -/
def enumD (i : Nat) : List DV → List DV
  | [] => []
  | x :: xs => .tup [.int (i : Nat), x] :: enumD (i + 1) xs
theorem enumD_len : ∀ (i : Nat) (xs : List DV), (enumD i xs).length = xs.length
  | _, [] => rfl
  | i, x :: xs => by simp only [enumD, List.length_cons, enumD_len (i + 1) xs]
theorem enumD_get : ∀ (k : Nat) (xs : List DV) (i : Nat) (d : DV), (enumD k xs)[i]? = some d → ∃ x, xs[i]? = some x ∧ d = .tup [.int ((k + i : Nat) : Int), x]
  | _, [], i, d, h => by simp [enumD] at h
  | k, x :: xs, 0, d, h => by
    simp [enumD] at h
    exact ⟨x, rfl, by rw [← h]; simp⟩
  | k, x :: xs, i + 1, d, h => by
    simp only [enumD, List.getElem?_cons_succ] at h
    obtain ⟨y, h1, h2⟩ := enumD_get (k + 1) xs i d h
    exact ⟨y, by simpa using h1, by rw [h2]; congr 3; omega⟩
def zipD : List DV → List DV → List DV
  | x :: xs, y :: ys => .tup [x, y] :: zipD xs ys
  | _, _ => []
theorem zipD_len : ∀ (xs ys : List DV), (zipD xs ys).length = min xs.length ys.length
  | [], _ => by simp [zipD]
  | _ :: _, [] => by simp [zipD]
  | x :: xs, y :: ys => by simp only [zipD, List.length_cons, zipD_len xs ys]; omega
theorem zipD_get : ∀ (xs ys : List DV) (i : Nat) (d : DV), (zipD xs ys)[i]? = some d → ∃ x y, xs[i]? = some x ∧ ys[i]? = some y ∧ d = .tup [x, y]
  | [], _, i, d, h => by simp [zipD] at h
  | _ :: _, [], i, d, h => by simp [zipD] at h
  | x :: xs, y :: ys, 0, d, h => by
    simp [zipD] at h
    exact ⟨x, y, rfl, rfl, h.symm⟩
  | x :: xs, y :: ys, i + 1, d, h => by
    simp only [zipD, List.getElem?_cons_succ] at h
    obtain ⟨a, b, h1, h2, h3⟩ := zipD_get xs ys i d h
    exact ⟨a, b, by simpa using h1, by simpa using h2, h3⟩
theorem lt_of_get {α : Type} {xs : List α} {i : Nat} {x : α} (h : xs[i]? = some x) : i < xs.length := by
  by_cases z : i < xs.length
  · exact z
  · rw [List.getElem?_eq_none (by omega)] at h; cases h
section
variable {W : Wd} {O : Addr → Prop} {H : Hp} {a b : Addr} {xs ys : List V} {ds es : List DV}
theorem pair_new {O1 : Addr → Prop} {H1 : Hp} {T : Addr} {x y : V} {d e : DV} (ho : ∀ a, O1 a → H1 a ≠ none) (hT : H1 T = none) (r1 : Rp W O1 H1 d x) (r2 : Rp W O1 H1 e y) :
    (∀ b o, H1 b = some o → upd H1 T (.tup [x, y]) b = some o) ∧ Rp W O1 (upd H1 T (.tup [x, y])) (.tup [d, e]) (.ref T) :=
  ⟨keep_new hT, Rp.tupNew (fun z => ho T z hT) (Rps.ext (Ext.upd hT) _ _ (Rps.cons r1 (Rps.cons r2 Rps.nil)))⟩
theorem jd_enum (h : Walked W O H a xs) (r : Rps W O H ds xs) : JD W O (Ite W.K a) (enumD 0 ds) H := by
  refine ⟨fun O1 H1 => Walked W O1 H1 a xs ∧ Rps W O1 H1 ds xs, ⟨h, r⟩, fun O1 H1 O2 H2 q e => ⟨q.1.ext e, Rps.ext e _ _ q.2⟩, fun i O1 H1 q hi => ?_, fun O1 H1 q => ⟨xs, q.1.sq, by rw [enumD_len, q.2.len]; exact Nat.le_refl _⟩, fun i O1 H1 x H2 d q hd y ho => ?_⟩
  · rw [enumD_len, q.2.len] at hi
    exact ⟨xs, xs[i], q.1.sq, List.getElem?_eq_getElem hi⟩
  · obtain ⟨T, v, e1, hT, e2, hy⟩ := y
    obtain ⟨dx, h1, h2⟩ := enumD_get 0 ds i d hd
    obtain ⟨u, h3, h4⟩ := q.2.get h1
    have := hy xs q.1.sq
    rw [h3] at this; cases this
    subst e1; subst e2; subst h2
    rw [Nat.zero_add]
    exact pair_new ho hT (by simp only [Rp]) h4
theorem jd_enumT (h : TpD W O H a xs) (r : Rps W O H ds xs) : JD W O (IteT W.K a) (enumD 0 ds) H := by
  refine ⟨fun O1 H1 => TpD W O1 H1 a xs ∧ Rps W O1 H1 ds xs, ⟨h, r⟩, fun O1 H1 O2 H2 q e => ⟨q.1.ext e, Rps.ext e _ _ q.2⟩, fun i O1 H1 q hi => ?_, fun O1 H1 q => ⟨xs, q.1.sq, by rw [enumD_len, q.2.len]; exact Nat.le_refl _⟩, fun i O1 H1 x H2 d q hd y ho => ?_⟩
  · rw [enumD_len, q.2.len] at hi
    exact ⟨xs, xs[i], q.1.sq, List.getElem?_eq_getElem hi⟩
  · obtain ⟨T, v, e1, hT, e2, hy⟩ := y
    obtain ⟨dx, h1, h2⟩ := enumD_get 0 ds i d hd
    obtain ⟨u, h3, h4⟩ := q.2.get h1
    have := hy xs q.1.sq
    rw [h3] at this; cases this
    subst e1; subst e2; subst h2
    rw [Nat.zero_add]
    exact pair_new ho hT (by simp only [Rp]) h4
theorem jd_zip (h : Walked W O H a xs) (r : Rps W O H ds xs) (h' : Walked W O H b ys) (r' : Rps W O H es ys) : JD W O (Itz W.K a b) (zipD ds es) H := by
  refine ⟨fun O1 H1 => (Walked W O1 H1 a xs ∧ Rps W O1 H1 ds xs) ∧ (Walked W O1 H1 b ys ∧ Rps W O1 H1 es ys), ⟨⟨h, r⟩, h', r'⟩, fun O1 H1 O2 H2 q e => ⟨⟨q.1.1.ext e, Rps.ext e _ _ q.1.2⟩, q.2.1.ext e, Rps.ext e _ _ q.2.2⟩, fun i O1 H1 q hi => ?_, fun O1 H1 q => ⟨xs, ys, q.1.1.sq, q.2.1.sq, ?_⟩, fun i O1 H1 x H2 d q hd y ho => ?_⟩
  · rw [zipD_len, q.1.2.len, q.2.2.len] at hi
    exact ⟨xs, ys, xs[i]'(by omega), ys[i]'(by omega), q.1.1.sq, q.2.1.sq, List.getElem?_eq_getElem (by omega), List.getElem?_eq_getElem (by omega)⟩
  · rw [zipD_len, q.1.2.len, q.2.2.len]; omega
  · obtain ⟨T, v, v2, e1, hT, e2, hy, hy2⟩ := y
    obtain ⟨dx, dy, h1, h2, h3⟩ := zipD_get ds es i d hd
    obtain ⟨u, g1, g2⟩ := q.1.2.get h1
    obtain ⟨u2, g3, g4⟩ := q.2.2.get h2
    have z1 := hy xs q.1.1.sq
    have z2 := hy2 ys q.2.1.sq
    rw [g1] at z1; cases z1
    rw [g3] at z2; cases z2
    subst e1; subst e2; subst h3
    exact pair_new ho hT g2 g4
theorem jd_zipT (h : TpD W O H a xs) (r : Rps W O H ds xs) (h' : TpD W O H b ys) (r' : Rps W O H es ys) : JD W O (RZ.ItzT W.K a b) (zipD ds es) H := by
  refine ⟨fun O1 H1 => (TpD W O1 H1 a xs ∧ Rps W O1 H1 ds xs) ∧ (TpD W O1 H1 b ys ∧ Rps W O1 H1 es ys), ⟨⟨h, r⟩, h', r'⟩, fun O1 H1 O2 H2 q e => ⟨⟨q.1.1.ext e, Rps.ext e _ _ q.1.2⟩, q.2.1.ext e, Rps.ext e _ _ q.2.2⟩, fun i O1 H1 q hi => ?_, fun O1 H1 q => ⟨xs, ys, q.1.1.sq, q.2.1.sq, ?_⟩, fun i O1 H1 x H2 d q hd y ho => ?_⟩
  · rw [zipD_len, q.1.2.len, q.2.2.len] at hi
    exact ⟨xs, ys, xs[i]'(by omega), ys[i]'(by omega), q.1.1.sq, q.2.1.sq, List.getElem?_eq_getElem (by omega), List.getElem?_eq_getElem (by omega)⟩
  · rw [zipD_len, q.1.2.len, q.2.2.len]; omega
  · obtain ⟨T, v, v2, e1, hT, e2, hy, hy2⟩ := y
    obtain ⟨dx, dy, h1, h2, h3⟩ := zipD_get ds es i d hd
    obtain ⟨u, g1, g2⟩ := q.1.2.get h1
    obtain ⟨u2, g3, g4⟩ := q.2.2.get h2
    have z1 := hy xs q.1.1.sq
    have z2 := hy2 ys q.2.1.sq
    rw [g1] at z1; cases z1
    rw [g3] at z2; cases z2
    subst e1; subst e2; subst h3
    exact pair_new ho hT g2 g4
end
/-- walked data read off one value -/
theorem walked_of {W : Wd} {O : Addr → Prop} {H : Hp} {d : DV} {items : List DV} {v : V} (e : seqOf d = some items) (h : Rp W O H d v) : ∃ a vs, v = .ref a ∧ Rps W O H items vs ∧ (Walked W O H a vs ∨ TpD W O H a vs) := by
  cases d <;> simp only [seqOf] at e <;> cases e <;> simp only [Rp] at h <;> obtain ⟨a, vs, h1, h2, h3⟩ := h
  · exact ⟨a, vs, h1, h3, .inl (.l h2)⟩
  · exact ⟨a, vs, h1, h3, .inl (.s h2)⟩
  · exact ⟨a, vs, h1, h3, .inr h2⟩
def isTup : DV → Bool
  | .tup _ => true
  | _ => false
theorem walked_by {W : Wd} {O : Addr → Prop} {H : Hp} {d : DV} {items : List DV} {v : V} (e : seqOf d = some items) (h : Rp W O H d v) : ∃ a vs, v = .ref a ∧ Rps W O H items vs ∧ (isTup d = false → Walked W O H a vs) ∧ (isTup d = true → TpD W O H a vs) := by
  cases d <;> simp only [seqOf] at e <;> cases e <;> simp only [Rp] at h <;> obtain ⟨a, vs, h1, h2, h3⟩ := h
  · exact ⟨a, vs, h1, h3, fun _ => .l h2, fun z => by cases z⟩
  · exact ⟨a, vs, h1, h3, fun _ => .s h2, fun z => by cases z⟩
  · exact ⟨a, vs, h1, h3, fun z => (by cases z), fun _ => h2⟩
def iEn (f : AF) : IF := M.bnd f fun r => match r with
  | [.d x] => M.of ((seqOf x).map (enumD 0))
  | _ => M.stk
def zipIt (x y : DV) : Option (List DV) := match seqOf x, seqOf y with
  | some xs, some ys => if isTup x = isTup y then some (zipD xs ys) else none
  | _, _ => none
def iZp (f : AF) : IF := M.bnd f fun r => match r with
  | [.d x, .d y] => M.of (zipIt x y)
  | _ => M.stk
section
variable {X : Cx} {E : XK}
theorem id_enum {e : Expr} {f : AF} {p pos tpos : Pos} {elts : List Expr} {kk : Nat} (hg : Gl X "enumerate") (hm : X.mg "enumerate" = none) (ha : PDA X E [e] f) (hs : starEach [e] X.env = [(false, eval e X.env)] := by rfl) : PDI X E (.Tuple elts kk tpos) (.Call (.Name "enumerate" p) [e] [] pos) (iEn f) := by
  refine PI_imp (pi_enumA hg hm ha hs) fun σ H R q => ?_
  obtain ⟨O, C, fr, res, fr', S, e, k, ke⟩ := q
  refine tA_bnd S e ke fun x fr1 v H1 e S1 x1 p1 ok1 ke => ?_
  split at e
  · rename_i x
    cases q : seqOf x with
    | none => simp only [q, M.of, Option.map_none] at e; cases e
    | some items =>
      simp only [q, M.of, Option.map_some] at e
      cases e
      obtain ⟨w, ws, e1, h2, h3⟩ := ok1
      simp only [RvsOk] at h3
      subst e1; subst h3
      obtain ⟨a, vs, e2, r, hw⟩ := walked_of q h2
      subst e2
      rcases hw with hw | hw
      · exact ⟨a, vs, rfl, .inl ⟨hw.sq, k _ rfl _ H1 S1 x1 p1 (jd_enum hw r)⟩⟩
      · exact ⟨a, vs, rfl, .inr ⟨hw.sq, k _ rfl _ H1 S1 x1 p1 (jd_enumT hw r)⟩⟩
  · cases e
theorem id_zip {e1 e2 : Expr} {f : AF} {p pos tpos : Pos} {elts : List Expr} {kk : Nat} (hg : Gl X "zip") (hm : X.mg "zip" = none) (ha : PDA X E [e1, e2] f) (hs : starEach [e1, e2] X.env = (false, eval e1 X.env) :: starEach [e2] X.env := by rfl) (hpl : (backTo pos (starEach [e2] X.env)).any (·.1) = false := by rfl) : PDI X E (.Tuple elts kk tpos) (.Call (.Name "zip" p) [e1, e2] [] pos) (iZp f) := by
  refine PI_imp (RZ.pi_zipA hg hm ha hs hpl) fun σ H R q => ?_
  obtain ⟨O, C, fr, res, fr', S, e, k, ke⟩ := q
  refine tA_bnd S e ke fun x fr1 v H1 e S1 x1 p1 ok1 ke => ?_
  split at e
  · rename_i x y
    cases q : zipIt x y with
    | none => simp only [q, M.of] at e; cases e
    | some items =>
      simp only [q, M.of] at e
      cases e
      obtain ⟨w, ws, e1, h2, u, us, e2, h3, h4⟩ := ok1
      simp only [RvsOk] at h4
      subst e1; subst e2; subst h4
      unfold zipIt at q
      split at q
      · rename_i xs ys q1 q2
        split at q
        · rename_i hs
          cases q
          obtain ⟨a, vs, ea, ra, ha1, ha2⟩ := walked_by q1 h2
          obtain ⟨b, us, eb, rb, hb1, hb2⟩ := walked_by q2 h3
          subst ea; subst eb
          refine ⟨a, b, vs, us, rfl, ?_⟩
          cases ht : isTup x with
          | false =>
            have w1 := ha1 ht
            have w2 := hb1 (by rw [← hs, ht])
            exact .inl ⟨w1.sq, w2.sq, k _ rfl _ H1 S1 x1 p1 (jd_zip w1 ra w2 rb)⟩
          | true =>
            have w1 := ha2 ht
            have w2 := hb2 (by rw [← hs, ht])
            exact .inr ⟨w1.sq, w2.sq, k _ rfl _ H1 S1 x1 p1 (jd_zipT w1 ra w2 rb)⟩
        · cases q
      · cases q
  · cases e
end
end DL
set_option maxRecDepth 100000
set_option maxHeartbeats 1000000
namespace DL
open PySem PySem.Spec PyProof.Rows L2
/-! ### list comprehensions -/
def wipeF (fr : Frm) : List Nat → Frm
  | [] => fr
  | i :: is => (wipeF fr is).set i none
/-- behind a comprehension: its own names as they were -/
def backF (old new : Frm) (ts : List Nat) : Frm := (List.range new.length).map fun j => if j ∈ ts then (match old[j]? with
  | some (some (.d x)) => some (.d x)
  | _ => none) else (new[j]?).join
theorem wipeF_len (fr : Frm) : ∀ ts : List Nat, (wipeF fr ts).length = fr.length
  | [] => rfl
  | i :: is => by rw [wipeF, List.length_set, wipeF_len fr is]
theorem wipeF_get {fr : Frm} {i : Nat} {x : SV} : ∀ {ts : List Nat}, (wipeF fr ts)[i]? = some (some x) → fr[i]? = some (some x) ∧ i ∉ ts
  | [], h => ⟨h, by simp⟩
  | v :: vs, h => by
    unfold wipeF at h
    by_cases hi : v = i
    · subst hi
      by_cases hv : v < (wipeF fr vs).length
      · rw [List.getElem?_set_self hv] at h; cases h
      · rw [List.getElem?_eq_none (by simpa using hv)] at h; cases h
    · rw [List.getElem?_set_ne hi] at h
      obtain ⟨h1, h2⟩ := wipeF_get h
      exact ⟨h1, by simp only [List.mem_cons, not_or]; exact ⟨fun z => hi z.symm, h2⟩⟩
theorem wipeF_out {fr : Frm} {i : Nat} : ∀ {ts : List Nat}, i ∉ ts → (wipeF fr ts)[i]? = fr[i]?
  | [], _ => rfl
  | v :: vs, h => by
    simp only [List.mem_cons, not_or] at h
    unfold wipeF
    rw [List.getElem?_set_ne (fun z => h.1 z.symm), wipeF_out h.2]
theorem wipe_get {σ : L2.St} {i : Nat} {ts : List Nat} (h : i ∉ ts) : (wipe σ ts)[i]? = σ[i]? := wipe_out h
section
variable {W : Wd} {O : Addr → Prop} {C : Ct} {σ : L2.St} {fr : Frm} {H : Hp}
theorem Sim.wipe (S : Sim W O C σ fr H) (ts : List Nat) : Sim W O C (L2.wipe σ ts) (wipeF fr ts) H := by
  refine ⟨fun i x h => ?_, fun i l xs h => ?_, fun i j l xs m ys a h1 h2 h3 h4 => ?_, S.trk, S.keep, by rw [wipeF_len, wipe_length]; exact S.len, S.sub0, S.trk0, S.subB⟩
  · obtain ⟨h1, h2⟩ := wipeF_get h
    obtain ⟨v, h3, h4⟩ := S.dat i x h1
    exact ⟨v, by rw [wipe_get h2]; exact h3, h4⟩
  · obtain ⟨h1, h2⟩ := wipeF_get h
    obtain ⟨a, vs, h3, h4⟩ := S.own i l xs h1
    exact ⟨a, vs, by rw [wipe_get h2]; exact h3, h4⟩
  · obtain ⟨g1, n1⟩ := wipeF_get h1
    obtain ⟨g2, n2⟩ := wipeF_get h2
    rw [wipe_get n1] at h3
    rw [wipe_get n2] at h4
    exact S.inj i j l xs m ys a g1 g2 h3 h4
theorem backF_get {old new : Frm} {ts : List Nat} {j : Nat} {x : SV} (h : (backF old new ts)[j]? = some (some x)) : (j ∈ ts ∧ ∃ d, x = .d d ∧ old[j]? = some (some (.d d))) ∨ (j ∉ ts ∧ new[j]? = some (some x)) := by
  unfold backF at h
  rw [List.getElem?_map] at h
  cases q : (List.range new.length)[j]? with
  | none => rw [q] at h; cases h
  | some k =>
    rw [q] at h
    have hk : k = j := by
      have hj := lt_of_get q
      rw [List.getElem?_eq_getElem hj] at q
      cases q
      simp
    subst hk
    simp only [Option.map_some, Option.some.injEq] at h
    split at h
    · rename_i hm
      left
      refine ⟨hm, ?_⟩
      split at h
      · rename_i d hd
        cases h
        exact ⟨d, rfl, hd⟩
      · cases h
    · rename_i hm
      right
      refine ⟨hm, ?_⟩
      cases q2 : new[k]? with
      | none => rw [q2] at h; cases h
      | some y =>
        rw [q2] at h
        simp only [Option.join] at h
        rw [← h]
        rfl
theorem backF_len {old new : Frm} {ts : List Nat} : (backF old new ts).length = new.length := by
  unfold backF
  rw [List.length_map, List.length_range]
/-- behind the block -/
theorem Sim.back {O1 : Addr → Prop} {H1 : Hp} {fr0 : Frm} {ts : List Nat} (S0 : Sim W O C σ fr0 H) (e : Ext O H O1 H1) (S : Sim W O1 C (L2.wipe σ ts) (wipeF fr ts) H1) : Sim W O1 C σ (backF fr0 fr ts) H1 := by
  have hl : fr.length = σ.length := by have := S.len; rwa [wipeF_len, wipe_length] at this
  refine ⟨fun i x h => ?_, fun i l xs h => ?_, fun i j l xs m ys a h1 h2 h3 h4 => ?_, S.trk, S.keep, by rw [backF_len]; exact hl, S.sub0, S.trk0, S.subB⟩
  · rcases backF_get h with ⟨hm, d, e1, h1⟩ | ⟨hm, h1⟩
    · cases e1
      obtain ⟨v, h2, h3⟩ := S0.dat i _ h1
      exact ⟨v, h2, Rp.ext e _ v h3⟩
    · obtain ⟨v, h2, h3⟩ := S.dat i x (by rw [wipeF_out hm]; exact h1)
      exact ⟨v, by rw [wipe_get hm] at h2; exact h2, h3⟩
  · rcases backF_get h with ⟨hm, d, e1, h1⟩ | ⟨hm, h1⟩
    · cases e1
    · obtain ⟨a, vs, h2, h3⟩ := S.own i l xs (by rw [wipeF_out hm]; exact h1)
      exact ⟨a, vs, by rw [wipe_get hm] at h2; exact h2, h3⟩
  · rcases backF_get h1 with ⟨hm, d, e1, _⟩ | ⟨hm, g1⟩
    · cases e1
    · rcases backF_get h2 with ⟨hn, d, e1, _⟩ | ⟨hn, g2⟩
      · cases e1
      · exact S.inj i j l xs m ys a (by rw [wipeF_out hm]; exact g1) (by rw [wipeF_out hn]; exact g2) (by rw [wipe_get hm]; exact h3) (by rw [wipe_get hn]; exact h4)
end
/-- no own list of the outer frame under the comprehension's names -/
def clearF (fr : Frm) (ts : List Nat) : Bool := ts.all fun i => match fr[i]? with
  | some (some (.own _ _)) => false
  | _ => true
theorem clearF_ok {fr : Frm} {ts : List Nat} (h : clearF fr ts = true) {i : Nat} (hi : i ∈ ts) {l : Bool} {xs : List DV} : fr[i]? ≠ some (some (.own l xs)) := fun z => by
  have := List.all_eq_true.mp h i hi
  rw [z] at this
  cases this
theorem Pat.back {fr0 fr1 : Frm} {ts : List Nat} (hc : clearF fr0 ts = true) (hl : fr1.length = fr0.length) (p : Pat (wipeF fr0 ts) (wipeF fr1 ts)) : Pat fr0 (backF fr0 fr1 ts) := by
  intro i
  have at_i : ∀ (x : SV), i ∉ ts → fr1[i]? = some (some x) → (backF fr0 fr1 ts)[i]? = some (some x) := fun x hm h => by
    have hi := lt_of_get h
    unfold backF
    rw [List.getElem?_map, List.getElem?_eq_getElem (by simpa using hi)]
    simp only [List.getElem_range, Option.map_some, if_neg hm, h, Option.join]
    rfl
  refine ⟨fun l xs h => ?_, fun x h => ?_, fun l xs h => ?_⟩
  · by_cases hm : i ∈ ts
    · exact absurd h (clearF_ok hc hm)
    · obtain ⟨ys, hy⟩ := (p i).1 l xs (by rw [wipeF_out hm]; exact h)
      rw [wipeF_out hm] at hy
      exact ⟨ys, at_i _ hm hy⟩
  · by_cases hm : i ∈ ts
    · have hi := lt_of_get h
      unfold backF
      rw [List.getElem?_map, List.getElem?_eq_getElem (by simpa [hl] using hi)]
      simp only [List.getElem_range, Option.map_some, if_pos hm, h]
    · have hy := (p i).2.1 x (by rw [wipeF_out hm]; exact h)
      rw [wipeF_out hm] at hy
      exact at_i _ hm hy
  · rcases backF_get h with ⟨hm, d, e1, h1⟩ | ⟨hm, h1⟩
    · cases e1
    · obtain ⟨ys, hy⟩ := (p i).2.2 l xs (by rw [wipeF_out hm]; exact h1)
      rw [wipeF_out hm] at hy
      exact ⟨ys, hy⟩
end DL
namespace DL
open PySem PySem.Spec PyProof.Rows L2
def Ct.pin (C : Ct) (D : Addr) (o : HO) : Ct := { C with H0 := fun b => if b = D then some o else C.H0 b }
section
variable {W : Wd} {O : Addr → Prop} {C : Ct} {σ : L2.St} {fr : Frm} {H : Hp} {D : Addr} {o o' : HO}
/-- none of the frame's own lists is D -/
def Apart (σ : L2.St) (fr : Frm) (D : Addr) : Prop := ∀ (i : Nat) (l : Bool) (xs : List DV), fr[i]? = some (some (.own l xs)) → σ[i]? ≠ some (some (.ref D))
theorem Sim.pin (S : Sim W O C σ fr H) (h : H D = some o) (hn : C.H0 D = none) (ha : Apart σ fr D) : Sim W O (C.pin D o) σ fr H := by
  refine ⟨S.dat, fun i l xs hi => ?_, S.inj, S.trk, fun b x n e => ?_, S.len, S.sub0, fun a e => ?_, S.subB⟩
  · obtain ⟨a, vs, h1, h2, h3, h4, h5, h6⟩ := S.own i l xs hi
    refine ⟨a, vs, h1, h2, h3, h4, fun hl => ?_, h6⟩
    show (if a = D then some o else C.H0 a) = none
    rw [if_neg (fun z => ha i l xs hi (by rw [h1, z]))]
    exact h5 hl
  · have e' : (if b = D then some o else C.H0 b) = some x := e
    by_cases z : b = D
    · rw [if_pos z] at e'
      rw [z, h]; exact e'
    · rw [if_neg z] at e'
      exact S.keep b x n e'
  · show (if a = D then some o else C.H0 a) ≠ none
    by_cases z : a = D
    · rw [if_pos z]; exact fun q => by cases q
    · rw [if_neg z]; exact S.trk0 a e
theorem Sim.pinned (S : Sim W O (C.pin D o) σ fr H) (hB : ¬ C.B D) : H D = some o := S.keep D o hB (if_pos rfl)
theorem Sim.unpin (S : Sim W O (C.pin D o) σ fr H) (hn : C.H0 D = none) (ht : ∀ a, C.O0 a → C.H0 a ≠ none) : Sim W O C σ fr H := by
  refine ⟨S.dat, fun i l xs hi => ?_, S.inj, S.trk, fun b x n e => ?_, S.len, S.sub0, ht, S.subB⟩
  · obtain ⟨a, vs, h1, h2, h3, h4, h5, h6⟩ := S.own i l xs hi
    refine ⟨a, vs, h1, h2, h3, h4, fun hl => ?_, h6⟩
    have e : (if a = D then some o else C.H0 a) = none := h5 hl
    by_cases z : a = D
    · rw [if_pos z] at e; cases e
    · rw [if_neg z] at e; exact e
  · refine S.keep b x n ?_
    show (if b = D then some o else C.H0 b) = some x
    rw [if_neg (fun z => by rw [z, hn] at e; cases e)]
    exact e
theorem ext_at {O : Addr → Prop} (hO : O D) : Ext O H O (upd H D o') := ⟨fun _ h => h, fun _ h => .inl h, fun b x n h => by rw [upd_ne (fun z => n (by rw [z]; exact hO))]; exact h⟩
theorem Sim.at (S : Sim W O C σ fr H) (hO : O D) (hn : C.H0 D = none) (ha : Apart σ fr D) : Sim W O C σ fr (upd H D o') := by
  refine ⟨fun i x h => ?_, fun i l xs hi => ?_, S.inj, fun a h => ?_, fun b x n e => ?_, S.len, S.sub0, S.trk0, S.subB⟩
  · obtain ⟨v, h1, h2⟩ := S.dat i x h
    exact ⟨v, h1, Rp.ext (ext_at hO) x v h2⟩
  · obtain ⟨a, vs, h1, h2, h3, h4, h5⟩ := S.own i l xs hi
    exact ⟨a, vs, h1, h2, by rw [upd_ne (fun z => ha i l xs hi (by rw [h1, z]))]; exact h3, Rps.ext (ext_at hO) xs vs h4, h5⟩
  · by_cases z : a = D
    · rw [z, upd_same]; exact fun q => by cases q
    · rw [upd_ne z]; exact S.trk a h
  · rw [upd_ne (fun z => by rw [z, hn] at e; cases e)]
    exact S.keep b x n e
end
mutual
theorem put_out : ∀ (T : Tg) {d : DV} {fr fr' : Frm}, T.put d fr = some fr' → (∀ j, j ∉ T.slots → fr'[j]? = fr[j]?) ∧ fr'.length = fr.length
  | .nm i, d, fr, fr', h => by
    simp only [Tg.put] at h
    split at h
    · cases h
      refine ⟨fun j hj => ?_, List.length_set ..⟩
      simp only [Tg.slots, List.mem_singleton] at hj
      rw [List.getElem?_set_ne (fun z => hj z.symm)]
    · cases h
  | .tp ts, d, fr, fr', h => by
    simp only [Tg.put] at h
    split at h
    · split at h
      · simpa only [Tg.slots] using puts_out ts h
      · cases h
    · split at h
      · simpa only [Tg.slots] using puts_out ts h
      · cases h
    · cases h
theorem puts_out : ∀ (Ts : List Tg) {ds : List DV} {fr fr' : Frm}, Tg.puts Ts ds fr = some fr' → (∀ j, j ∉ Tg.slotss Ts → fr'[j]? = fr[j]?) ∧ fr'.length = fr.length
  | [], [], fr, fr', h => by simp only [Tg.puts] at h; cases h; exact ⟨fun _ _ => rfl, rfl⟩
  | [], _ :: _, fr, fr', h => by simp only [Tg.puts] at h; cases h
  | _ :: _, [], fr, fr', h => by simp only [Tg.puts] at h; cases h
  | T :: Ts, d :: ds, fr, fr', h => by
    simp only [Tg.puts] at h
    cases q : T.put d fr with
    | none => rw [q] at h; cases h
    | some f1 =>
      rw [q] at h
      obtain ⟨a1, a2⟩ := put_out T q
      obtain ⟨b1, b2⟩ := puts_out Ts h
      refine ⟨fun j hj => ?_, b2.trans a2⟩
      simp only [Tg.slotss, List.mem_append, not_or] at hj
      rw [b1 j hj.2, a1 j hj.1]
end
theorem wipeF_ext {a b : Frm} {ts : List Nat} (h : ∀ j, j ∉ ts → a[j]? = b[j]?) (i : Nat) (x : SV) (g : (wipeF a ts)[i]? = some (some x)) : (wipeF b ts)[i]? = some (some x) := by
  obtain ⟨g1, g2⟩ := wipeF_get g
  rw [wipeF_out g2, ← h i g2]
  exact g1
theorem pat_wipe_out {a b : Frm} {ts : List Nat} (h : ∀ j, j ∉ ts → a[j]? = b[j]?) : Pat (wipeF a ts) (wipeF b ts) := fun i =>
  ⟨fun l xs g => ⟨xs, wipeF_ext h i _ g⟩, fun x g => wipeF_ext h i _ g, fun l xs g => ⟨xs, wipeF_ext (fun j hj => (h j hj).symm) i _ g⟩⟩
theorem Pat.wipe {a b : Frm} (p : Pat a b) (ts : List Nat) : Pat (wipeF a ts) (wipeF b ts) := by
  intro i
  refine ⟨fun l xs g => ?_, fun x g => ?_, fun l xs g => ?_⟩
  · obtain ⟨g1, g2⟩ := wipeF_get g
    rw [wipeF_out g2]
    exact (p i).1 l xs g1
  · obtain ⟨g1, g2⟩ := wipeF_get g
    rw [wipeF_out g2]
    exact (p i).2.1 x g1
  · obtain ⟨g1, g2⟩ := wipeF_get g
    rw [wipeF_out g2]
    exact (p i).2.2 l xs g1
theorem wipe_in {σ : L2.St} {i : Nat} : ∀ {ts : List Nat}, i ∈ ts → i < σ.length → (wipe σ ts)[i]? = some none
  | v :: vs, h, hl => by
    unfold L2.wipe
    by_cases e : v = i
    · rw [e, List.getElem?_set_self (by rw [wipe_length]; exact hl)]
    · rw [List.getElem?_set_ne e]
      rcases List.mem_cons.mp h with z | z
      · exact absurd z.symm e
      · exact wipe_in z hl
theorem wipe_eq {σ σ2 : L2.St} {ts : List Nat} (h : ∀ j, j ∉ ts → σ2[j]? = (wipe σ ts)[j]?) (hl : σ2.length = (wipe σ ts).length) : wipe σ2 ts = wipe σ ts := by
  rw [wipe_length] at hl
  apply List.ext_getElem?
  intro j
  by_cases hj : j ∈ ts
  · by_cases z : j < σ.length
    · rw [wipe_in hj (by omega), wipe_in hj z]
    · rw [List.getElem?_eq_none (by rw [wipe_length]; omega), List.getElem?_eq_none (by rw [wipe_length]; omega)]
  · rw [wipe_get hj, h j hj]

def lcLoop (T : Tg) (tt : TF) (fe : EF) : List DV → Frm → Option (List DV × Frm)
  | [], fr => some ([], fr)
  | x :: xs, fr => match T.put x (wipeF fr T.slots) with
    | none => none
    | some f1 => match tt f1 with
      | some (.ok true, f2) => match fe f2 with
        | some (.ok (.d y), f3) => (lcLoop T tt fe xs f3).map fun p => (y :: p.1, p.2)
        | _ => none
      | some (.ok false, f2) => lcLoop T tt fe xs f2
      | _ => none
def lComp (T : Tg) (fi : IF) (tt : TF) (fe : EF) : LF := M.bnd fi fun items => fun fr => if clearF fr T.slots then (match lcLoop T tt fe items fr with
  | some (ys, f) => if ys.length ≤ LIM then some (.ok ys, backF fr f T.slots) else none
  | none => none) else none
abbrev PDTs (X : Cx) (E : XK) (ifs : List Expr) (f : TF) : Prop := PTs X ifs (tT (wd X) E f)
theorem PTs_imp {X : Cx} {e : List Expr} {t t' : TT} (h : PTs X e t) (k : ∀ σ H Q, t' σ H Q → t σ H Q) : PTs X e t' := ⟨fun pins s σ H Q I q => h.run pins s σ H Q I (k σ H Q q)⟩
theorem ptsd_nil {X : Cx} {E : XK} : PDTs X E [] (M.ret true) := by
  refine PTs_imp pts_nil fun σ H Q h => ?_
  obtain ⟨O, C, fr, res, fr', S, e, k, ke⟩ := h
  cases e
  exact k _ rfl H S .refl .refl
theorem ptsd_one {X : Cx} {E : XK} {c : Expr} {f : TF} (h : PDT X E c f) : PDTs X E [c] f := pts_one h
theorem tI_bnd {W : Wd} {E : XK} {O : Addr → Prop} {H : Hp} {C : Ct} {σ : L2.St} {fr fr' : Frm} {β : Type} {res : Rs β} {f : IF} {g : List DV → M β} {R : It → Hp → Prop} (S : Sim W O C σ fr H) (e : M.bnd f g fr = some (res, fr')) (ke : KE W E O C σ H fr' res)
    (k : ∀ items fr1 J H1, g items fr1 = some (res, fr') → Sim W O C σ fr1 H1 → Ext O H O H1 → Pat fr fr1 → JD W O J items H1 → KE W E O C σ H1 fr' res → R J H1) : tI W E f σ H R := by
  unfold M.bnd at e
  cases q : f fr with
  | none => rw [q] at e; cases e
  | some p =>
    obtain ⟨r, fr1⟩ := p
    rw [q] at e
    cases r with
    | ok r =>
      refine ⟨O, C, fr, .ok r, fr1, S, q, fun r' hr J H1 S1 e1 p1 jd => ?_, fun x hx => (by cases hx)⟩
      cases hr
      exact k r fr1 J H1 e S1 e1 p1 jd (ke.go e1)
    | ex x =>
      cases e
      refine ⟨O, C, fr, .ex x, fr', S, q, fun r' hr => (by cases hr), fun y hy c d H' S1 e1 ok => ?_⟩
      cases hy
      exact ke x rfl c d H' S1 e1 ok
theorem lc_imp {W : Wd} {E : XK} {own : List (Str × Nat)} {T : Tg} {fi : IF} {tt : TF} {fe : EF} (ho : own.map (·.2) = T.slots) (σ : L2.St) (H : Hp) (Q : VK) (q : tL W E (lComp T fi tt fe) σ H Q) : tLc (tI W E fi) (tG W T) (tT W E0 tt) (tD W E0 fe) (own.map (·.2)) σ H Q := by
  obtain ⟨O, C, fr, res, fr', S, e, k, ke⟩ := q
  show tI W E fi σ H _
  rw [ho]
  refine tI_bnd S e ke fun items fr1 J H1 e S1 x1 p1 jd ke => ?_
  intro D hD
  split at e
  case isFalse => cases e
  rename_i hcl
  split at e
  case h_2 => cases e
  rename_i ys f hloop
  split at e
  case isFalse => cases e
  rename_i hlen
  cases e
  obtain ⟨Hold, hold0, holdx, hgo, hstop, hyld⟩ := jd.ex
  have nD : ¬ O D := S1.fresh hD
  have uD : C.H0 D = none := S1.unborn hD
  have bD : ¬ C.B D := fun z => nD (S1.subB D z)
  let O1 : Addr → Prop := fun a => O a ∨ a = D
  have oD : O1 D := .inr rfl
  have x2 : Ext O H1 O1 (upd H1 D (.lst [])) := ext_also hD
  have S2 : Sim W O1 C σ fr1 (upd H1 D (.lst [])) := S1.also hD
  have apart : ∀ f1 : Frm, Pat (wipeF fr1 T.slots) (wipeF f1 T.slots) → Apart (wipe σ T.slots) (wipeF f1 T.slots) D := fun f1 p i l xs h z => by
    obtain ⟨ys, hy⟩ := (p i).2.2 l xs h
    obtain ⟨h1, h2⟩ := wipeF_get hy
    obtain ⟨a, vs, g1, g2, _⟩ := S1.own i l ys h1
    rw [wipe_get h2, g1] at z
    cases z
    exact nD g2
  let Wi : Nat → Nat → Hp → Prop := fun i m H => m = items.length - i ∧ i ≤ items.length ∧ ∃ (fi' : Frm) (done rest : List DV) (acc : List V), lcLoop T tt fe (items.drop i) fi' = some (rest, f) ∧ done ++ rest = ys ∧ Sim W O1 C (wipe σ T.slots) (wipeF fi' T.slots) H ∧
    Ext O1 (upd H1 D (.lst [])) O1 H ∧ Pat (wipeF fr1 T.slots) (wipeF fi' T.slots) ∧ fi'.length = fr1.length ∧ H D = some (.lst acc) ∧ Rps W O1 H done acc ∧ Hold O1 H
  refine ⟨Wi, ⟨items.length, by simp, Nat.zero_le _, fr1, [], ys, [], hloop, rfl, S2.wipe _, .refl, .refl, rfl, upd_same, Rps.nil, holdx _ _ _ _ hold0 x2⟩, ?_⟩
  rintro i m H3 ⟨em, hi', fi', done, rest, acc, hl, ed, S3, x3, p3, l3, hDacc, racc, hold⟩
  by_cases hlt : i < items.length
  · right
    refine ⟨hgo i O1 H3 hold hlt, fun H' => ∃ m', m' < m ∧ Wi (i + 1) m' H', fun H' h => h, fun x H4 hy => ?_⟩
    have hd : items[i]? = some items[i] := List.getElem?_eq_getElem hlt
    obtain ⟨kk, rx⟩ := hyld i O1 H3 x H4 items[i] hold hd hy S3.trk
    have S4 : Sim W O1 C (wipe σ T.slots) (wipeF fi' T.slots) H4 := S3.more kk
    have x4 : Ext O1 H3 O1 H4 := Ext.same kk
    rw [List.drop_eq_getElem_cons hlt, lcLoop] at hl
    cases qput : T.put items[i] (wipeF fi' T.slots) with
    | none => simp only [qput] at hl; cases hl
    | some f1 =>
      simp only [qput] at hl
      obtain ⟨po, pl⟩ := put_out T qput
      refine ⟨O1, C.pin D (.lst acc), wipeF fi' T.slots, items[i], f1, S4.pin (kk _ _ hDacc) uD (apart _ p3), rx, qput, fun σ2 S5 k5 l5 => ?_⟩
      have hw : wipe σ2 T.slots = wipe σ T.slots := wipe_eq k5 l5
      refine ⟨hw, ?_⟩
      have pf : Pat (wipeF fi' T.slots) (wipeF f1 T.slots) := by
        have h1 : Pat (wipeF (wipeF fi' T.slots) T.slots) (wipeF f1 T.slots) := pat_wipe_out fun j hj => (po j hj).symm
        have h2 : Pat (wipeF fi' T.slots) (wipeF (wipeF fi' T.slots) T.slots) := pat_wipe_out fun j hj => (wipeF_out hj).symm
        exact h2.trans h1
      have lf : f1.length = fr1.length := by rw [pl, wipeF_len, l3]
      cases qt : tt f1 with
      | none => simp only [qt] at hl; cases hl
      | some pt =>
        obtain ⟨rt, f2⟩ := pt
        cases rt with
        | ex _ => simp only [qt] at hl; cases hl
        | ok b =>
          refine ⟨O1, C.pin D (.lst acc), f1, .ok b, f2, S5, qt, fun b' hb H5 S6 x6 p6 => ?_, fun _ z => by cases z⟩
          cases hb
          have lf2 : f2.length = fr1.length := by rw [S6.len, ← S5.len, lf]
          cases b with
          | false =>
            rw [if_neg Bool.false_ne_true]
            simp only [qt] at hl
            refine ⟨items.length - (i + 1), by omega, rfl, hlt, f2, done, rest, acc, hl, ed, ?_, x3.trans (x4.trans x6), p3.trans (pf.trans (p6.wipe _)), lf2, S6.pinned bD, Rps.ext (x4.trans x6) _ _ racc, holdx _ _ _ _ hold (x4.trans x6)⟩
            have := (S6.unpin uD S.trk0).wipe T.slots
            rwa [hw] at this
          | true =>
            rw [if_pos rfl]
            simp only [qt] at hl
            cases qe : fe f2 with
            | none => simp only [qe] at hl; cases hl
            | some pe =>
              obtain ⟨re, f3⟩ := pe
              cases re with
              | ex _ => simp only [qe] at hl; cases hl
              | ok r =>
                cases r with
                | own _ => simp only [qe] at hl; cases hl
                | d y =>
                  simp only [qe] at hl
                  cases q3 : lcLoop T tt fe (items.drop (i + 1)) f3 with
                  | none => rw [q3] at hl; cases hl
                  | some pr =>
                    obtain ⟨rest2, fz⟩ := pr
                    rw [q3] at hl
                    simp only [Option.map_some, Option.some.injEq, Prod.mk.injEq] at hl
                    obtain ⟨hl1, hl2⟩ := hl
                    subst hl1; subst hl2
                    refine ⟨O1, C.pin D (.lst acc), f2, .ok (.d y), f3, S6, qe, fun r' hr v H6 S7 x7 p7 ok7 => ?_, fun _ z => by cases z⟩
                    cases hr
                    have hD6 := S7.pinned bD
                    have hacc := racc.len
                    refine ⟨acc, hD6, lim_lt ?_, items.length - (i + 1), by omega, rfl, hlt, f3, done ++ [y], rest2, acc ++ [v], q3, by rw [List.append_assoc]; exact ed, ?_, ?_, p3.trans (pf.trans ((p6.trans p7).wipe _)), by rw [S7.len, ← S6.len, lf2], upd_same, ?_, ?_⟩
                    · have : ys.length = done.length + (rest2.length + 1) := by rw [← ed, List.length_append, List.length_cons]
                      omega
                    · have S8 := (S7.unpin uD S.trk0).wipe T.slots
                      rw [hw] at S8
                      exact S8.at oD uD (apart _ (p3.trans (pf.trans ((p6.trans p7).wipe _))))
                    · exact x3.trans (x4.trans (x6.trans (x7.trans (ext_at oD))))
                    · exact Rps.app (Rps.ext (x4.trans (x6.trans (x7.trans (ext_at oD)))) _ _ racc) (Rps.cons (Rp.ext (ext_at oD) _ _ ok7) Rps.nil)
                    · exact holdx _ _ _ _ hold (x4.trans (x6.trans (x7.trans (ext_at oD))))
  · left
    have ei : i = items.length := by omega
    subst ei
    refine ⟨hstop O1 H3 hold, ?_⟩
    rw [List.drop_length, lcLoop] at hl
    cases hl
    rw [List.append_nil] at ed
    subst ed
    exact k _ rfl D acc H3 (S1.back (x2.trans x3) S3) (x1.trans (x2.trans x3)) (p1.trans (Pat.back hcl l3 p3)) nD uD hDacc racc
theorem pl_comp {X : Cx} {E : XK} {elt tg iter : Expr} {ifs : List Expr} {scope : Scope} {own : List (Str × Nat)} {pos : Pos} {T : Tg} {fi : IF} {tt : TF} {fe : EF} (ho : own.map (·.2) = T.slots) (hc : X.calm = true) (hN : X.N.Nodup) (hi : PDI X E tg iter fi) (ok : BlkOk X.N X.env.scope scope own)
    (hg : ∀ (s : Shared) (H : Hp) (Cl : Addr) (cl : List (Str × Addr)) (fp : List Addr), PDG (X.blk s H scope (compEnvC scope cl Cl X.env) fp) tg T) (ht : ∀ (s : Shared) (H : Hp) (Cl : Addr) (cl : List (Str × Addr)) (fp : List Addr), PDTs (X.blk s H scope (compEnvC scope cl Cl X.env) fp) E0 ifs tt)
    (he : ∀ (s : Shared) (H : Hp) (Cl : Addr) (cl : List (Str × Addr)) (fp : List Addr), PD (X.blk s H scope (compEnvC scope cl Cl X.env) fp) E0 elt fe) (hs : ∀ x, foldedSetIterable iter X.env x = pure x := by intro _; rfl) :
    PDL X E (.ListComp elt [⟨tg, iter, ifs, 0⟩] scope pos) (lComp T fi tt fe) :=
  PE_imp (pe_lc (g := tG (wd X) T) (tt := tT (wd X) E0 tt) (te := tD (wd X) E0 fe) hc hN hi ok hg ht he hs) (lc_imp ho)
end DL
set_option maxRecDepth 100000
set_option maxHeartbeats 1000000
namespace DL
open PySem PySem.Spec PyProof.Rows L2
/-! ### statements -/
def KX (W : Wd) (E : XK) (O : Addr → Prop) (C : Ct) (H : Hp) (fr' : Frm) (n : Nat) {α : Type} (res : Rs α) : Prop :=
  ∀ x, res = .ex x → ∀ O' σ' c d H', Sim W O' C σ' fr' H' → Ext O H O' H' → σ'.length = n → ExOk W C.O0 H' x c d → E c d H'
def Lands (W : Wd) (C : Ct) (D : Ends) (σ' : L2.St) (H' : Hp) : Out → Prop
  | .nx => D.nx σ' H'
  | .bk => D.bk σ' H'
  | .ct => D.ct σ' H'
  | .rt d => ∀ v, Rp W C.O0 H' d v → D.rt v H'
def KS (W : Wd) (O : Addr → Prop) (C : Ct) (H : Hp) (fr' : Frm) (n : Nat) (res : Rs Out) (D : Ends) : Prop :=
  ∀ o, res = .ok o → ∀ O' σ' H', Sim W O' C σ' fr' H' → Ext O H O' H' → σ'.length = n → Lands W C D σ' H' o
def tS (W : Wd) (E : XK) (f : SF) : TS := fun D σ H => ∃ O C fr res fr', Sim W O C σ fr H ∧ f fr = some (res, fr') ∧ KS W O C H fr' σ.length res D ∧ KX W E O C H fr' σ.length res
abbrev PDS (X : Cx) (E : XK) (st : Stmt) (f : SF) : Prop := PS X st (tS (wd X) E f)
abbrev PDSs (X : Cx) (E : XK) (st : List Stmt) (f : SF) : Prop := PSs X st (tS (wd X) E f)
section
variable {W : Wd} {E : XK} {O O1 : Addr → Prop} {C : Ct} {σ : L2.St} {fr fr' : Frm} {H H1 : Hp} {n : Nat} {D : Ends}
theorem KX.go {α : Type} {res : Rs α} (h : KX W E O C H fr' n res) (e : Ext O H O1 H1) : KX W E O1 C H1 fr' n res := fun x hx O' σ' c d H' S e1 l k => h x hx O' σ' c d H' S (e.trans e1) l k
theorem KX.ke {α : Type} {res : Rs α} (h : KX W E O C H fr' n res) (l : σ.length = n) : KE W E O C σ H fr' res := fun x hx c d H' S e1 k => h x hx O σ c d H' S e1 l k
theorem KS.go {res : Rs Out} (h : KS W O C H fr' n res D) (e : Ext O H O1 H1) : KS W O1 C H1 fr' n res D := fun o ho O' σ' H' S e1 l => h o ho O' σ' H' S (e.trans e1) l
end
def sNx : SF := M.ret .nx
def sBrk : SF := M.ret .bk
def sCnt : SF := M.ret .ct
def sSeq (f g : SF) : SF := M.bnd f fun o => match o with
  | .nx => g
  | o => M.ret o
section
variable {X : Cx} {E : XK}
theorem ps_nx {st : Stmt} (h : PS X st tNext) : PDS X E st sNx := by
  refine PS_imp h fun D σ H q => ?_
  obtain ⟨O, C, fr, res, fr', S, e, k, kx⟩ := q
  cases e
  exact k _ rfl O σ H S .refl rfl
theorem pds_pass {pos : Pos} : PDS X E (.Pass pos) sNx := ps_nx ps_pass
theorem pds_doc {x j pos pos'} : PDS X E (.Expr (.Constant (.str x) j pos) pos') sNx := ps_nx ps_doc
theorem pds_break {pos : Pos} : PDS X E (.Break pos) sBrk := by
  refine PS_imp ps_break fun D σ H q => ?_
  obtain ⟨O, C, fr, res, fr', S, e, k, kx⟩ := q
  cases e
  exact k _ rfl O σ H S .refl rfl
theorem pds_cont {pos : Pos} : PDS X E (.Continue pos) sCnt := by
  refine PS_imp ps_continue fun D σ H q => ?_
  obtain ⟨O, C, fr, res, fr', S, e, k, kx⟩ := q
  cases e
  exact k _ rfl O σ H S .refl rfl
/-- what is never reached -/
theorem pds_never {st : Stmt} : PDS X E st M.stk := by
  refine PS_imp ps_never fun D σ H q => ?_
  obtain ⟨O, C, fr, res, fr', S, e, k, kx⟩ := q
  cases e
theorem pdss_nil : PDSs X E [] sNx := by
  refine PSs_imp pss_nil fun D σ H q => ?_
  obtain ⟨O, C, fr, res, fr', S, e, k, kx⟩ := q
  cases e
  exact k _ rfl O σ H S .refl rfl
theorem pdss_one {st : Stmt} {f : SF} (h : PDS X E st f) : PDSs X E [st] f := pss_one h
theorem pdss_cons {st : Stmt} {rest : List Stmt} {f g : SF} (h1 : PDS X E st f) (h2 : PDSs X E rest g) : PDSs X E (st :: rest) (sSeq f g) := by
  refine PSs_imp (pss_cons h1 h2) fun D σ H q => ?_
  obtain ⟨O, C, fr, res, fr', S, e, k, kx⟩ := q
  unfold sSeq M.bnd at e
  cases q : f fr with
  | none => rw [q] at e; cases e
  | some p =>
    obtain ⟨r, f1⟩ := p
    rw [q] at e
    cases r with
    | ex x =>
      cases e
      exact ⟨O, C, fr, .ex x, fr', S, q, fun o ho => (by cases ho), kx⟩
    | ok o =>
      refine ⟨O, C, fr, .ok o, f1, S, q, fun o' ho O1 σ1 H1 S1 x1 l1 => ?_, fun x hx => (by cases hx)⟩
      cases ho
      cases o with
      | nx => exact ⟨O1, C, f1, res, fr', S1, e, by rw [l1]; exact k.go x1, by rw [l1]; exact kx.go x1⟩
      | bk => cases e; exact k _ rfl O1 σ1 H1 S1 x1 l1
      | ct => cases e; exact k _ rfl O1 σ1 H1 S1 x1 l1
      | rt d => cases e; exact k _ rfl O1 σ1 H1 S1 x1 l1

/-! ### expressions dropped, handed back, stored -/
def sExpr (f : EF) : SF := M.bnd f fun _ => M.ret .nx
theorem pds_expr {e : Expr} {f : EF} {pos : Pos} (h : PD X E e f) (hs : swapsWith e none pos.line X.env = pure false := by rfl) : PDS X E (.Expr e pos) (sExpr f) := by
  refine PS_imp (ps_expr h hs) fun D σ H q => ?_
  obtain ⟨O, C, fr, res, fr', S, e, k, kx⟩ := q
  refine tD_bnd S e (kx.ke rfl) fun x fr1 v H1 e S1 x1 p1 ok1 ke => ?_
  cases e
  exact k _ rfl O σ H1 S1 x1 rfl
/-- what is handed back: data, or one's own list, which then is data -/
def handed (fr : Frm) : RV → Option DV
  | .d x => some x
  | .own i => match fr[i]? with
    | some (some (.own true xs)) => some (.lst xs)
    | _ => none
theorem handed_ok {W : Wd} {O : Addr → Prop} {C : Ct} {σ : L2.St} {fr : Frm} {H : Hp} {r : RV} {v : V} {d : DV} (S : Sim W O C σ fr H) (h : RvOk W O H σ fr r v) (e : handed fr r = some d) : Rp W C.O0 H d v := by
  cases r with
  | d x => cases e; exact Rp.off S.sub0 _ v h
  | own i =>
    simp only [handed] at e
    split at e
    · rename_i xs q
      cases e
      obtain ⟨l, ys, h1, h2⟩ := h
      rw [q] at h1
      cases h1
      obtain ⟨a, vs, g1, g2, g3, g4, g5, _⟩ := S.own i true xs q
      rw [h2] at g1; cases g1
      simp only [Rp]
      exact ⟨a, vs, rfl, ⟨fun z => S.trk0 a z (g5 rfl), g3⟩, Rps.off S.sub0 _ _ g4⟩
    · cases e
def sRet (f : EF) : SF := M.bnd f fun r => fun fr => (handed fr r).map fun d => (.ok (.rt d), fr)
theorem pds_ret {e : Expr} {f : EF} {pos : Pos} (h : PD X E e f) : PDS X E (.Return (some e) pos) (sRet f) := by
  refine PS_imp (ps_ret h) fun D σ H q => ?_
  obtain ⟨O, C, fr, res, fr', S, e, k, kx⟩ := q
  refine tD_bnd S e (kx.ke rfl) fun x fr1 v H1 e S1 x1 p1 ok1 ke => ?_
  cases q1 : handed fr1 x with
  | none => simp only [q1] at e; cases e
  | some d =>
    simp only [q1, Option.map_some] at e
    cases e
    exact k _ rfl O σ H1 S1 x1 rfl v (handed_ok S1 ok1 q1)
def sRetN : SF := M.ret (.rt .non)
theorem pds_retN {pos : Pos} : PDS X E (.Return none pos) sRetN := by
  refine PS_imp ps_retN fun D σ H q => ?_
  obtain ⟨O, C, fr, res, fr', S, e, k, kx⟩ := q
  cases e
  exact k _ rfl O σ H S .refl rfl .non (by simp only [Rp])
def sSet (T : Tg) (f : EF) : SF := M.bnd f fun r => fun fr => match r with
  | .d x => (T.put x fr).map fun f1 => (.ok .nx, f1)
  | .own _ => none
theorem pds_set {tg e : Expr} {T : Tg} {f : EF} {pos : Pos} (he : PD X E e f) (hg : PDG X tg T) (hs : swapsWithSole [tg] e pos.line X.env = pure false := by rfl) (hw : swappedStores [tg] e X.env = pure none := by rfl)
    (h1 : (assignEach [tg] X.env).map (·.2) = [assign tg X.env] := by rfl) : PDS X E (.Assign [tg] e pos) (sSet T f) := by
  refine PS_imp (ps_asg he hg hs hw h1) fun D σ H q => ?_
  obtain ⟨O, C, fr, res, fr', S, e, k, kx⟩ := q
  refine tD_bnd S e (kx.ke rfl) fun x fr1 v H1 e S1 x1 p1 ok1 ke => ?_
  cases x with
  | own i => cases e
  | d x =>
    cases q1 : T.put x fr1 with
    | none => simp only [q1] at e; cases e
    | some f1 =>
      simp only [q1, Option.map_some] at e
      cases e
      exact ⟨O, C, fr1, x, fr', S1, ok1, q1, fun σ1 S2 k1 l1 => k _ rfl O σ1 H1 S2 x1 l1⟩
/-- a name gets a new list of its own -/
def sOwn (i : Nat) (f : LF) : SF := M.bnd f fun ds => fun fr => if i < fr.length then some (.ok .nx, fr.set i (some (.own true ds))) else none
theorem Sim.setOwn {W : Wd} {O : Addr → Prop} {C : Ct} {σ : L2.St} {fr : Frm} {H : Hp} {i : Nat} {ds : List DV} {p : Addr} {vs : List V} (S : Sim W O C σ fr H) (hO : O p) (h0 : C.H0 p = none) (hp : H p = some (.lst vs)) (r : Rps W O H ds vs) (ha : Apart σ fr p) (hi : i < fr.length) :
    Sim W O C (σ.set i (some (.ref p))) (fr.set i (some (.own true ds))) H := by
  have his : i < σ.length := by rw [← S.len]; exact hi
  refine ⟨fun j x h => ?_, fun j l xs h => ?_, fun j k l xs m ys a h1 h2 h3 h4 => ?_, S.trk, S.keep, by rw [List.length_set, List.length_set]; exact S.len, S.sub0, S.trk0, S.subB⟩
  · by_cases e : i = j
    · subst e
      rw [List.getElem?_set_self hi] at h
      cases h
    · rw [List.getElem?_set_ne e] at h
      rw [List.getElem?_set_ne e]
      exact S.dat j x h
  · by_cases e : i = j
    · subst e
      rw [List.getElem?_set_self hi] at h
      cases h
      exact ⟨p, vs, List.getElem?_set_self his, hO, hp, r, fun _ => h0, fun z => by cases z⟩
    · rw [List.getElem?_set_ne e] at h
      rw [List.getElem?_set_ne e]
      exact S.own j l xs h
  · by_cases e : i = j
    · by_cases f : i = k
      · exact e.symm.trans f
      · subst e
        rw [List.getElem?_set_ne f] at h2 h4
        rw [List.getElem?_set_self his] at h3
        cases h3
        exact absurd h4 (ha k m ys h2)
    · rw [List.getElem?_set_ne e] at h1 h3
      by_cases f : i = k
      · subst f
        rw [List.getElem?_set_self his] at h4
        cases h4
        exact absurd h3 (ha j l xs h1)
      · rw [List.getElem?_set_ne f] at h2 h4
        exact S.inj j k l xs m ys a h1 h2 h3 h4
theorem apart_of {W : Wd} {O : Addr → Prop} {C : Ct} {σ : L2.St} {fr fr1 : Frm} {H : Hp} {p : Addr} (S : Sim W O C σ fr H) (pt : Pat fr fr1) (hp : ¬ O p) : Apart σ fr1 p := fun i l xs h z => by
  obtain ⟨ys, hy⟩ := (pt i).2.2 l xs h
  obtain ⟨a, vs, g1, g2, _⟩ := S.own i l ys hy
  rw [g1] at z; cases z
  exact hp g2
theorem own_end {W : Wd} {O : Addr → Prop} {C : Ct} {σ : L2.St} {fr fr' : Frm} {H : Hp} {i : Nat} {f : LF} {res : Rs Out} {D : Ends} {Q : VK} (S : Sim W O C σ fr H) (e : sOwn i f fr = some (res, fr')) (k : KS W O C H fr' σ.length res D) (kx : KX W E O C H fr' σ.length res)
    (hQ : ∀ v H', D.nx (σ.set i (some v)) H' → Q v H') : tL W E f σ H Q := by
  refine tL_bnd S e (kx.ke rfl) fun ds fr1 p vs H1 e S1 x1 p1 n1 n2 h1 r1 => ?_
  split at e
  · rename_i hi
    cases e
    exact hQ _ _ (k _ rfl _ _ H1 (S1.setOwn (.inr rfl) n2 h1 r1 (apart_of S p1 n1) hi) x1 (List.length_set ..))
  · cases e
theorem pds_own {i : Nat} {x : Str} {e : Expr} {f : LF} {pos pos' : Pos} (hN : X.N.Nodup) (hi : X.N[i]? = some x) (hx : Loc X.env.scope x) (he : PDL X E e f) (hs : swapsWith e (some (.Name x pos')) pos.line X.env = pure false := by rfl)
    (hf : X.fn x = true ∨ X.env.scope.names.lookup x = some .local := by first | exact .inl rfl | exact .inr rfl | assumption) : PDS X E (.Assign [.Name x pos'] e pos) (sOwn i f) := by
  refine PS_imp (ps_set hN hi hx he hs hf) fun D σ H q => ?_
  obtain ⟨O, C, fr, res, fr', S, e, k, kx⟩ := q
  exact own_end S e k kx fun v H' h => h
end
end DL
set_option maxRecDepth 100000
set_option maxHeartbeats 1000000
namespace DL
open PySem PySem.Spec PyProof.Rows L2
/-! ### one's own lists changed -/
section
variable {W : Wd} {O : Addr → Prop} {C : Ct} {σ : L2.St} {fr : Frm} {H : Hp} {i : Nat} {l : Bool} {xs ys : List DV} {a : Addr} {vs us : List V}
theorem Sim.ownAt (S : Sim W O C σ fr H) (hi : fr[i]? = some (some (.own l xs))) (hs : σ[i]? = some (some (.ref a))) (r : Rps W O H ys us) : Sim W O C σ (fr.set i (some (.own l ys))) (upd H a (.lst us)) ∧ Ext O H O (upd H a (.lst us)) ∧ Pat fr (fr.set i (some (.own l ys))) := by
  have hl : i < fr.length := lt_of_get hi
  obtain ⟨b, ws, q1, q2, q3, q4, q5, q6⟩ := S.own i l xs hi
  rw [hs] at q1; cases q1
  have xt : Ext O H O (upd H a (.lst us)) := ext_at q2
  refine ⟨⟨fun j x h => ?_, fun j m zs h => ?_, fun j k m zs m2 zs2 b h1 h2 h3 h4 => ?_, fun b h => ?_, fun b x n e => ?_, by rw [List.length_set]; exact S.len, S.sub0, S.trk0, S.subB⟩, xt, fun j => ⟨fun m zs h => ?_, fun x h => ?_, fun m zs h => ?_⟩⟩
  · by_cases e : i = j
    · subst e; rw [List.getElem?_set_self hl] at h; cases h
    · rw [List.getElem?_set_ne e] at h
      obtain ⟨v, h1, h2⟩ := S.dat j x h
      exact ⟨v, h1, Rp.ext xt x v h2⟩
  · by_cases e : i = j
    · subst e
      rw [List.getElem?_set_self hl] at h
      cases h
      exact ⟨a, us, hs, q2, upd_same, Rps.ext xt _ _ r, q5, q6⟩
    · rw [List.getElem?_set_ne e] at h
      obtain ⟨b, ws, h1, h2, h3, h4, h5⟩ := S.own j m zs h
      exact ⟨b, ws, h1, h2, by rw [upd_ne (fun z => e (S.inj i j l xs m zs a hi h hs (by rw [h1, z])))]; exact h3, Rps.ext xt _ _ h4, h5⟩
  · have get : ∀ {j : Nat} {m : Bool} {zs : List DV}, (fr.set i (some (SV.own l ys)))[j]? = some (some (.own m zs)) → ∃ zs', fr[j]? = some (some (.own m zs')) := fun {j m zs} h => by
      by_cases e : i = j
      · subst e; rw [List.getElem?_set_self hl] at h; cases h; exact ⟨xs, hi⟩
      · rw [List.getElem?_set_ne e] at h; exact ⟨zs, h⟩
    obtain ⟨z1, g1⟩ := get h1
    obtain ⟨z2, g2⟩ := get h2
    exact S.inj j k m z1 m2 z2 b g1 g2 h3 h4
  · by_cases z : b = a
    · rw [z, upd_same]; exact fun q => by cases q
    · rw [upd_ne z]; exact S.trk b h
  · by_cases z : b = a
    · subst z
      cases l with
      | true => rw [q5 rfl] at e; cases e
      | false => exact absurd (q6 rfl).2 n
    · rw [upd_ne z]; exact S.keep b x n e
  · by_cases e : i = j
    · subst e
      rw [hi] at h; cases h
      exact ⟨ys, List.getElem?_set_self hl⟩
    · exact ⟨zs, by rw [List.getElem?_set_ne e]; exact h⟩
  · by_cases e : i = j
    · subst e; rw [hi] at h; cases h
    · rw [List.getElem?_set_ne e]; exact h
  · by_cases e : i = j
    · subst e
      rw [List.getElem?_set_self hl] at h; cases h
      exact ⟨xs, hi⟩
    · rw [List.getElem?_set_ne e] at h; exact ⟨zs, h⟩
end
section
variable {X : Cx} {E : XK}
/-- found.append(e) -/
def eApp (i : Nat) (f : EF) : EF := fun fr0 => match fr0[i]? with
  | some (some (.own _ _)) => M.bnd f (fun r => fun fr => match r, fr[i]? with
    | .d x, some (some (.own l xs)) => if xs.length < LIM then some (.ok (.d .non), fr.set i (some (.own l (xs ++ [x])))) else none
    | _, _ => none) fr0
  | _ => none
theorem pd_app {i : Nat} {x : Str} {e : Expr} {f : EF} {p0 apos cpos : Pos} (hN : X.N[i]? = some x) (hv : Vis X.env.scope x) (he : PD X E e f) (hd : (x == ("__debug__" : Str)) = false := by decide) (hcd : (x == ("__classdict__" : Str)) = false := by decide)
    (hbase : attributeBase (.Name x p0) "append" X.env (eval (.Name x p0) X.env) = eval (.Name x p0) X.env := by rfl) (hfew : ((backTo cpos (starEach [e] X.env)).all (fun x => !x.1) && (backToKw cpos (keywordEach [] X.env)).all (fun x => x.1.isSome) && decide ([e].length + ([] : List Keyword).length + (if ([] : List Keyword).isEmpty then 0 else 1) < 30)) = true := by rfl)
    (hline : (apos.endLine == cpos.line) = true := by rfl) (hs : starEach [e] X.env = (false, eval e X.env) :: starEach [] X.env := by rfl) (hplain : (backTo cpos (starEach [] X.env)).any (·.1) = false := by rfl) : PD X E (.Call (.Attribute (.Name x p0) "append" apos) [e] [] cpos) (eApp i f) := by
  refine PE_imp (pe_bm PySem.F.plainAttrs_list PySem.F.slot_list_append PySem.F.type_list_append mt_append (pe_var (i := i) hN hv hd hcd) (pa_cons he pa_nil hs) hbase hfew hline hs hplain) fun σ H Q q => ?_
  obtain ⟨O, C, fr, res, fr', S, e, k, ke⟩ := q
  unfold eApp at e
  split at e
  · rename_i l xs hi
    obtain ⟨a, vs, g1, g2, g3, g4, _⟩ := S.own i l xs hi
    refine ⟨.ref a, g1, .inl ⟨rfl, vs, .inl (.inl g3)⟩, ?_⟩
    refine tD_bnd S e ke fun r fr1 v H1 e S1 x1 p1 ok1 ke => ?_
    split at e
    · rename_i _ _ y m ys hi2
      split at e
      · rename_i hl
        cases e
        obtain ⟨b, us, h1, h2, h3, h4, _⟩ := S1.own i m ys hi2
        rw [g1] at h1; cases h1
        obtain ⟨S2, x2, p2⟩ := S1.ownAt (ys := ys ++ [y]) hi2 g1 (Rps.app h4 (Rps.cons ok1 Rps.nil))
        exact ⟨a, us, v, rfl, rfl, h3, lim_lt (by rw [← h4.len]; exact hl), k _ rfl _ _ S2 (x1.trans x2) (p1.trans p2) (by simp only [RvOk, Rp])⟩
      · cases e
    · cases e
  · cases e
/-- found[j] = e -/
def sPut (i : Nat) (fj fe : EF) : SF := M.bnd fe fun r => fun fr0 => match fr0[i]? with
  | some (some (.own _ _)) => M.bnd fj (fun j => fun fr => match r, j, fr[i]? with
    | .d x, .d (.int k), some (some (.own l xs)) => (ixN xs.length k).map fun n => (.ok .nx, fr.set i (some (.own l (xs.set n x))))
    | _, _, _ => none) fr0
  | _ => none
theorem pds_put {i : Nat} {x : Str} {j e : Expr} {fj fe : EF} {p0 p1 pos : Pos} (hN : X.N[i]? = some x) (hv : Vis X.env.scope x) (hj : PD X E j fj) (he : PD X E e fe) (hd : (x == ("__debug__" : Str)) = false := by decide) (hcd : (x == ("__classdict__" : Str)) = false := by decide)
    (ha : ∀ v, assign (.Subscript (.Name x p0) j p1) X.env v = (do
      let ov ← holding [v] (eval (.Name x p0) X.env)
      let iv ← holding [v, ov] (eval j X.env)
      standAt p1
      holding [v, ov, iv] (setItem ov iv v)
      release [v, ov, iv] []) := by intro _; rfl)
    (hs : swapsWithSole [.Subscript (.Name x p0) j p1] e pos.line X.env = pure false := by rfl) (hw : swappedStores [.Subscript (.Name x p0) j p1] e X.env = pure none := by rfl) (h1 : (assignEach [.Subscript (.Name x p0) j p1] X.env).map (·.2) = [assign (.Subscript (.Name x p0) j p1) X.env] := by rfl) :
    PDS X E (.Assign [.Subscript (.Name x p0) j p1] e pos) (sPut i fj fe) := by
  refine PS_imp (ps_asg he (pg_sub (pe_var (i := i) hN hv hd hcd) hj set_list ha) hs hw h1) fun D σ H q => ?_
  obtain ⟨O, C, fr, res, fr', S, e, k, kx⟩ := q
  refine tD_bnd S e (kx.ke rfl) fun r fr1 v H1 e S1 x1 p1 ok1 ke => ?_
  split at e
  · rename_i l xs hi
    obtain ⟨a, vs, g1, g2, g3, g4, _⟩ := S1.own i l xs hi
    refine ⟨.ref a, g1, ?_⟩
    refine tD_bnd S1 e ke fun jr fr2 w H2 e S2 x2 p2 ok2 ke => ?_
    split at e
    · rename_i y n m ys hi2 _
      cases q : ixN ys.length n with
      | none => simp only [q] at e; cases e
      | some z =>
        simp only [q, Option.map_some] at e
        cases e
        obtain ⟨b, us, h1, h2, h3, h4, _⟩ := S2.own i m ys hi2
        rw [g1] at h1; cases h1
        have ok1' := ok1.go x2 p2
        simp only [RvOk] at ok1'
        obtain ⟨S3, x3, p3⟩ := S2.ownAt (ys := ys.set z y) hi2 g1 (Rps.set ok1' z h4)
        refine ⟨a, us, n, z, rfl, by simpa only [RvOk, Rp] using ok2, h3, by rw [← h4.len]; exact q, ?_⟩
        exact k _ rfl O σ _ S3 ((x1.trans x2).trans x3) rfl
    · cases e
  · cases e

/-! ### if, for, while -/
def sIf (t : TF) (f g : SF) : SF := M.bnd t fun b => if b then f else g
theorem tS_on {W : Wd} {E : XK} {O O1 : Addr → Prop} {C : Ct} {σ1 : L2.St} {fr fr' : Frm} {H H1 : Hp} {g : SF} {res : Rs Out} {D : Ends} {n : Nat} (S : Sim W O1 C σ1 fr H1) (e : g fr = some (res, fr')) (k : KS W O C H fr' n res D) (kx : KX W E O C H fr' n res) (x : Ext O H O1 H1) (l : σ1.length = n) : tS W E g D σ1 H1 :=
  ⟨O1, C, fr, res, fr', S, e, by rw [l]; exact k.go x, by rw [l]; exact kx.go x⟩
theorem pds_if {c : Expr} {a b : List Stmt} {t : TF} {f g : SF} {pos : Pos} (hc : PDT X E c t) (ha : PDSs X E a f) (hb : PDSs X E b g) : PDS X E (.If c a b pos) (sIf t f g) := by
  refine PS_imp (ps_if hc ha hb) fun D σ H q => ?_
  obtain ⟨O, C, fr, res, fr', S, e, k, kx⟩ := q
  refine tT_bnd S e (kx.ke rfl) fun b fr1 H1 e S1 x1 p1 ke => ?_
  cases b with
  | true => rw [if_pos rfl]; exact tS_on S1 (by simpa using e) k kx x1 rfl
  | false => rw [if_neg Bool.false_ne_true]; exact tS_on S1 (by simpa using e) k kx x1 rfl
def forLoop (T : Tg) (body : SF) : List DV → SF
  | [], fr => some (.ok .nx, fr)
  | x :: xs, fr => match T.put x fr with
    | none => none
    | some f1 => match body f1 with
      | some (.ok .nx, f2) => forLoop T body xs f2
      | some (.ok .ct, f2) => forLoop T body xs f2
      | some (.ok .bk, f2) => some (.ok .nx, f2)
      | some (.ok (.rt d), f2) => some (.ok (.rt d), f2)
      | some (.ex e, f2) => some (.ex e, f2)
      | none => none
def sFor (T : Tg) (fi : IF) (body : SF) : SF := M.bnd fi fun items => forLoop T body items
theorem pds_for {tg iter : Expr} {body : List Stmt} {T : Tg} {fi : IF} {f : SF} {pos : Pos} (hp : PassesOwn (model X.prog X.w) X.A X.env X.xe) (hc : X.calm = true) (hi : PDI X E tg iter fi) (hg : PDG X tg T) (hb : PDSs X E body f) (hs : ∀ x, foldedSetIterable iter X.env x = pure x := by intro _; rfl) :
    PDS X E (.For tg iter body [] pos) (sFor T fi f) := by
  refine PS_imp (ps_for hp hc hi hg hb hs) fun D σ H q => ?_
  obtain ⟨O, C, fr, res, fr', S, e, k, kx⟩ := q
  show tI (wd X) E fi σ H _
  refine tI_bnd S e (kx.ke rfl) fun items fr1 J H1 e S1 x1 p1 jd ke => ?_
  obtain ⟨Hold, hold0, holdx, hgo, hstop, hyld⟩ := jd.ex
  let Wi : Nat → Nat → L2.St → Hp → Prop := fun i m σ' H' => m = items.length - i ∧ i ≤ items.length ∧ ∃ (O' : Addr → Prop) (f' : Frm), forLoop T f (items.drop i) f' = some (res, fr') ∧ Sim (wd X) O' C σ' f' H' ∧ Ext O H O' H' ∧ σ'.length = σ.length ∧ Hold O' H'
  refine ⟨Wi, ⟨items.length, by simp, Nat.zero_le _, O, fr1, e, S1, x1, rfl, hold0⟩, ?_⟩
  rintro i m σ3 H3 ⟨em, hi', O3, f3, hl, S3, x3, l3, hold⟩
  by_cases hlt : i < items.length
  · right
    refine ⟨hgo i O3 H3 hold hlt, fun σ' H' => ∃ m', m' < m ∧ Wi (i + 1) m' σ' H', fun σ' H' h => h, fun x H4 hy => ?_⟩
    have hd : items[i]? = some items[i] := List.getElem?_eq_getElem hlt
    obtain ⟨kk, rx⟩ := hyld i O3 H3 x H4 items[i] hold hd hy S3.trk
    rw [List.drop_eq_getElem_cons hlt, forLoop] at hl
    cases qput : T.put items[i] f3 with
    | none => simp only [qput] at hl; cases hl
    | some f4 =>
      simp only [qput] at hl
      refine ⟨O3, C, f3, items[i], f4, S3.more kk, rx, qput, fun σ4 S4 k4 l4 => ?_⟩
      have x4 : Ext O H O3 H4 := x3.trans (Ext.same kk)
      have hold4 : Hold O3 H4 := holdx _ _ _ _ hold (Ext.same kk)
      cases qb : f f4 with
      | none => simp only [qb] at hl; cases hl
      | some pb =>
        obtain ⟨rb, f5⟩ := pb
        refine ⟨O3, C, f4, rb, f5, S4, qb, fun o ho O5 σ5 H5 S5 x5 l5 => ?_, fun y hy O5 σ5 c d H5 S5 x5 l5 ok5 => ?_⟩
        · subst ho
          have next : forLoop T f (items.drop (i + 1)) f5 = some (res, fr') → ∃ m', m' < m ∧ Wi (i + 1) m' σ5 H5 := fun h =>
            ⟨items.length - (i + 1), by omega, rfl, hlt, O5, f5, h, S5, x4.trans x5, by rw [l5, l4, l3], holdx _ _ _ _ hold4 x5⟩
          cases o with
          | nx => simp only [qb] at hl; exact next hl
          | ct => simp only [qb] at hl; exact next hl
          | bk => simp only [qb] at hl; cases hl; exact k _ rfl O5 σ5 H5 S5 (x4.trans x5) (by rw [l5, l4, l3])
          | rt d => simp only [qb] at hl; cases hl; exact k _ rfl O5 σ5 H5 S5 (x4.trans x5) (by rw [l5, l4, l3])
        · subst hy
          simp only [qb] at hl
          cases hl
          exact kx _ rfl O5 σ5 c d H5 S5 (x4.trans x5) (by rw [l5, l4, l3]) ok5
  · left
    have ei : i = items.length := by omega
    subst ei
    refine ⟨hstop O3 H3 hold, ?_⟩
    rw [List.drop_length, forLoop] at hl
    cases hl
    exact k _ rfl O3 σ3 H3 S3 x3 l3
def whLoop (t : TF) (body : SF) : Nat → SF
  | 0 => M.stk
  | n + 1 => M.bnd t fun b => if b then (fun fr => match body fr with
      | some (.ok .nx, f2) => whLoop t body n f2
      | some (.ok .ct, f2) => whLoop t body n f2
      | some (.ok .bk, f2) => some (.ok .nx, f2)
      | some (.ok (.rt d), f2) => some (.ok (.rt d), f2)
      | some (.ex e, f2) => some (.ex e, f2)
      | none => none) else M.ret .nx
/-- n: enough turns -/
def sWh (n : Nat) (t : TF) (body : SF) : SF := whLoop t body n
theorem pds_while {c : Expr} {body : List Stmt} {t : TF} {f : SF} {n : Nat} {pos : Pos} (hp : PassesOwn (model X.prog X.w) X.A X.env X.xe) (hc : PDT X E c t) (hb : PDSs X E body f) : PDS X E (.While c body [] pos) (sWh n t f) := by
  refine PS_imp (ps_while hp hc hb) fun D σ H q => ?_
  obtain ⟨O, C, fr, res, fr', S, e, k, kx⟩ := q
  let Wi : Nat → L2.St → Hp → Prop := fun m σ' H' => ∃ (O' : Addr → Prop) (f' : Frm), whLoop t f m f' = some (res, fr') ∧ Sim (wd X) O' C σ' f' H' ∧ Ext O H O' H' ∧ σ'.length = σ.length
  refine ⟨Wi, ⟨n, O, fr, e, S, .refl, rfl⟩, ?_⟩
  rintro m σ3 H3 ⟨O3, f3, hl, S3, x3, l3⟩
  cases m with
  | zero => cases hl
  | succ m =>
    rw [whLoop] at hl
    refine tT_bnd S3 hl ((kx.go x3).ke l3) fun b f4 H4 hl S4 x4 p4 ke => ?_
    cases b with
    | false =>
      rw [if_neg Bool.false_ne_true]
      cases hl
      exact k _ rfl O3 σ3 H4 S4 (x3.trans x4) l3
    | true =>
      rw [if_pos rfl]
      refine ⟨fun σ' H' => ∃ m', m' < m + 1 ∧ Wi m' σ' H', fun σ' H' h => h, ?_⟩
      simp only [if_true] at hl
      cases qb : f f4 with
      | none => simp only [qb] at hl; cases hl
      | some pb =>
        obtain ⟨rb, f5⟩ := pb
        refine ⟨O3, C, f4, rb, f5, S4, qb, fun o ho O5 σ5 H5 S5 x5 l5 => ?_, fun y hy O5 σ5 c d H5 S5 x5 l5 ok5 => ?_⟩
        · subst ho
          have x6 := (x3.trans x4).trans x5
          cases o with
          | nx => simp only [qb] at hl; exact ⟨m, Nat.lt_succ_self m, O5, f5, hl, S5, x6, by rw [l5, l3]⟩
          | ct => simp only [qb] at hl; exact ⟨m, Nat.lt_succ_self m, O5, f5, hl, S5, x6, by rw [l5, l3]⟩
          | bk => simp only [qb] at hl; cases hl; exact k _ rfl O5 σ5 H5 S5 x6 (by rw [l5, l3])
          | rt d => simp only [qb] at hl; cases hl; exact k _ rfl O5 σ5 H5 S5 x6 (by rw [l5, l3])
        · subst hy
          simp only [qb] at hl
          cases hl
          exact kx _ rfl O5 σ5 c d H5 S5 ((x3.trans x4).trans x5) (by rw [l5, l3]) ok5
end
end DL
set_option maxRecDepth 100000
set_option maxHeartbeats 1000000
namespace DL
open PySem PySem.Spec PyProof.Rows L2
/-! ### defs -/
abbrev Mir := List SV → Option (Rs DV × List (List DV))
def ArgOk (W : Wd) (O : Addr → Prop) (H : Hp) : List SV → List V → Prop
  | [], vs => vs = []
  | .d x :: as, vs => ∃ v ws, vs = v :: ws ∧ Rp W O H x v ∧ ArgOk W O H as ws
  | .own _ xs :: as, vs => ∃ a us ws, vs = .ref a :: ws ∧ O a ∧ H a = some (.lst us) ∧ Rps W O H xs us ∧ ArgOk W O H as ws
def lent : List SV → List V → List Addr
  | .own _ _ :: as, .ref a :: vs => a :: lent as vs
  | _ :: as, _ :: vs => lent as vs
  | _, _ => []
def OutOk (W : Wd) (O : Addr → Prop) (H : Hp) : List SV → List V → List (List DV) → Prop
  | [], _, os => os = []
  | .d _ :: as, _ :: vs, os => OutOk W O H as vs os
  | .own _ _ :: as, v :: vs, o :: os => (∃ a us, v = .ref a ∧ H a = some (.lst us) ∧ Rps W O H o us) ∧ OutOk W O H as vs os
  | _, _, _ => False
def spD (W : Wd) (m : Mir) : Sp := fun vs H Q E => ∃ O args res outs, m args = some (res, outs) ∧ ArgOk W O H args vs ∧ (lent args vs).Nodup ∧ (∀ a, O a → H a ≠ none) ∧
  (∀ r, res = .ok r → ∀ v H', (∀ b o, b ∉ lent args vs → H b = some o → H' b = some o) → OutOk W O H' args vs outs → Rp W O H' r v → Q v H') ∧
  (∀ e, res = .ex e → ∀ c d H', (∀ b o, b ∉ lent args vs → H b = some o → H' b = some o) → OutOk W O H' args vs outs → ExOk W O H' e c d → E c d H')
theorem ArgOk.len {W : Wd} {O : Addr → Prop} {H : Hp} : ∀ {as : List SV} {vs : List V}, ArgOk W O H as vs → as.length = vs.length
  | [], vs, h => by simp only [ArgOk] at h; subst h; rfl
  | .d x :: as, vs, h => by
    obtain ⟨v, ws, e, _, h2⟩ := h
    subst e
    rw [List.length_cons, List.length_cons, ArgOk.len h2]
  | .own l xs :: as, vs, h => by
    obtain ⟨a, us, ws, e, _, _, _, h2⟩ := h
    subst e
    rw [List.length_cons, List.length_cons, ArgOk.len h2]

/-- a def's promise, where nothing shows itself -/
structure FnG (P : Program) (w : World) (K : PySem.W.Frag) (mg : Str → Option Value) (base : Heap) (CX : CXT) (k : Nat) (f : Addr) (fd : FuncData) (ps : List Str) (sp : Sp) : Prop where
  len : ∀ vs H Q E, sp vs H Q E → vs.length = ps.length
  go : ∀ (A : Around) (outer : List Env) (s : Shared) (H : Hp) (args : Args) (us : List Value) (vs : List V) (Q : VK) (E : XK), Room k A → A.guards = some [] → Env0 P w K mg base A outer s H → BindsTo s fd args (ps.zip us) → Vals vs us → sp vs H Q E →
    codeAny (model P w) A (.call (.ref f) args) (CR CX outer P w H s Q E) s
theorem FnG.up {P : Program} {w : World} {K : PySem.W.Frag} {mg : Str → Option Value} {base : Heap} {CX : CXT} {j k : Nat} {f : Addr} {fd : FuncData} {ps : List Str} {sp : Sp} (F : FnG P w K mg base CX j f fd ps sp) (h : j ≤ k) : FnG P w K mg base CX k f fd ps sp :=
  ⟨F.len, fun A outer s H args us vs Q E hr => F.go A outer s H args us vs Q E (hr.mono h)⟩
theorem FnG.imp {P : Program} {w : World} {K : PySem.W.Frag} {mg : Str → Option Value} {base : Heap} {CX : CXT} {k : Nat} {f : Addr} {fd : FuncData} {ps : List Str} {sp sp' : Sp} (F : FnG P w K mg base CX k f fd ps sp) (h : ∀ vs H Q E, sp' vs H Q E → sp vs H Q E) : FnG P w K mg base CX k f fd ps sp' :=
  ⟨fun vs H Q E q => F.len vs H Q E (h _ _ _ _ q), fun A outer s H args us vs Q E hr hg e0 hb hv hs => F.go A outer s H args us vs Q E hr hg e0 hb hv (h _ _ _ _ hs)⟩
/-- a def by its body -/
theorem fnG_of {CX : CXT} {P : Program} {w : World} {K : PySem.W.Frag} {mg : Str → Option Value} {base : Heap} {k : Nat} {x qual : Str} {params : Arguments} {body : List Stmt} {scope : Scope} {dvs : List V} {kws : List (Str × V)} {f : Addr} {fd : FuncData} {N ps : List Str} {sp : Sp} (F : FunD K x qual params body scope dvs kws f fd) (S : FnScope N ps scope) (len : ∀ vs H Q E, sp vs H Q E → vs.length = ps.length)
    (hbody : ∀ (cdv : Value) (A : Around) (outer : List Env) (s : Shared) (H : Hp) (vs : List V) (Q : VK) (E : XK), Room k (A.deeper (envOfC qual (scope) s.heap.objs.size f cdv)) → A.guards = some [] → sp vs H Q E →
      ∃ t, PSs (cxOf CX P w K mg base N qual (scope) f cdv A outer s H E) (body) t ∧ t { nx := fun _ H' => Q .non H', rt := Q } (L2.start N vs) H) : FnG P w K mg base CX (k + 1) f fd ps sp := by
  obtain ⟨oc, od, dV, kV, doc, pm, an, cdv, ct, osl, efd, lk, hcd, _, _⟩ := F.ex
  subst efd
  constructor
  · exact len
  intro A outer s H args us vs Q E hr hgd e0 hb r hsp
  have KX : K.In s.heap := e0.mod.kin.keeps fun b o e => (e0.bs b o e).1
  have lim : s.heap.NoLimit := e0.mod.nolimit.keeps fun b o e => (e0.bs b o e).1
  have kinds : ∀ y ∈ ps.zip us, (scope).names.lookup y.1 = some .local ∨ ((scope).names.lookup y.1 = some .cell ∧ ((cellsFrom (s.heap.objs.size + 1) (scope).names []).lookup y.1).isSome = true) := by
    intro y hy
    obtain ⟨n, v⟩ := y
    rcases S.par n (List.of_mem_zip hy).1 with q | q
    · exact .inl q
    · exact .inr ⟨q, PySem.W.cellsFrom_some _ _ _ (.inl q)⟩
  refine codeAny_call_function hr.depth (KX _ _ lk) rfl S.co S.gen rfl (PySem.W.codeRec_of KX hcd) (hb _ _ _ _ (wpAny_newFunctionEnv_cells S.kind kinds fun env he s1 xx => ?_))
  subst he
  refine ⟨lim.keeps xx.toInCall.keep, codeAny_func ?_⟩
  obtain ⟨t, ht, hq⟩ := hbody cdv A outer s H vs Q E (hr.deeper _) hgd hsp
  have I := inv_start (CX := CX) (E := E) S hr.hd e0 (len _ _ _ _ hsp) r xx
  refine wpAny_mono (ht.run [] s1 (L2.start N vs) H _ I hq) (fun fl s' hs => ?_) fun e s' hs => hs
  cases fl with
  | ret u =>
    obtain ⟨v, σ', H', J, rv, q⟩ := hs
    exact ⟨v, H', J.os, J.bare, J.base, J.hok, rv, q⟩
  | next =>
    obtain ⟨σ', H', J, q⟩ := hs
    exact ⟨V.non, H', J.os, J.bare, J.base, J.hok, rfl, q⟩
  | brk => exact hs.elim fun _ z => z.elim fun _ z => z.2.elim
  | cont => exact hs.elim fun _ z => z.elim fun _ z => z.2.elim

/-! ### the mirror of a body -/
def slotOf : SV → Option SV
  | .d x => some (.d x)
  | .own _ xs => some (.own false xs)
def startF (N : Nat) (args : List SV) : Frm := args.map slotOf ++ List.replicate (N - args.length) none
def outsF : List SV → Frm → Option (List (List DV))
  | [], _ => some []
  | .d _ :: as, _ :: fr => outsF as fr
  | .own _ _ :: as, some (.own false ys) :: fr => (outsF as fr).map (ys :: ·)
  | _, _ => none
def runD (n N : Nat) (g : SF) : Mir := fun args => if args.length = n then (match g (startF N args) with
  | some (.ok (.rt d), fr) => (outsF args fr).map fun os => (.ok d, os)
  | some (.ok .nx, fr) => (outsF args fr).map fun os => (.ok .non, os)
  | some (.ex e, fr) => (outsF args fr).map fun os => (.ex e, os)
  | _ => none) else none
theorem ArgOk.at {W : Wd} {O : Addr → Prop} {H : Hp} : ∀ {as : List SV} {vs : List V} {i : Nat}, ArgOk W O H as vs → (∀ x, as[i]? = some (.d x) → ∃ v, vs[i]? = some v ∧ Rp W O H x v) ∧
    (∀ l xs, as[i]? = some (.own l xs) → ∃ a us, vs[i]? = some (.ref a) ∧ O a ∧ H a = some (.lst us) ∧ Rps W O H xs us ∧ a ∈ lent as vs)
  | [], vs, i, h => ⟨fun x e => by simp at e, fun l xs e => by simp at e⟩
  | .d y :: as, vs, i, h => by
    obtain ⟨v, ws, e, r, h2⟩ := h
    subst e
    cases i with
    | zero => exact ⟨fun x e => by simp at e; subst e; exact ⟨v, rfl, r⟩, fun l xs e => by simp at e⟩
    | succ i =>
      obtain ⟨k1, k2⟩ := ArgOk.at (i := i) h2
      refine ⟨fun x e => by simpa using k1 x (by simpa using e), fun l xs e => ?_⟩
      obtain ⟨a, us, h3, h4, h5, h6, h7⟩ := k2 l xs (by simpa using e)
      exact ⟨a, us, by simpa using h3, h4, h5, h6, by simpa [lent] using h7⟩
  | .own m ys :: as, vs, i, h => by
    obtain ⟨b, us, ws, e, ho, hb, r, h2⟩ := h
    subst e
    cases i with
    | zero => exact ⟨fun x e => by simp at e, fun l xs e => by simp at e; obtain ⟨e1, e2⟩ := e; subst e1; subst e2; exact ⟨b, us, rfl, ho, hb, r, by simp [lent]⟩⟩
    | succ i =>
      obtain ⟨k1, k2⟩ := ArgOk.at (i := i) h2
      refine ⟨fun x e => by simpa using k1 x (by simpa using e), fun l xs e => ?_⟩
      obtain ⟨a, us, h3, h4, h5, h6, h7⟩ := k2 l xs (by simpa using e)
      exact ⟨a, us, by simpa using h3, h4, h5, h6, by simp only [lent, List.mem_cons]; exact .inr h7⟩
theorem lent_sub {W : Wd} {O : Addr → Prop} {H : Hp} : ∀ {as : List SV} {vs : List V} {a : Addr}, ArgOk W O H as vs → a ∈ lent as vs → O a
  | [], vs, a, h, m => by cases vs <;> simp [lent] at m
  | .d y :: as, vs, a, h, m => by
    obtain ⟨v, ws, e, r, h2⟩ := h
    subst e
    exact lent_sub h2 (by simpa [lent] using m)
  | .own l ys :: as, vs, a, h, m => by
    obtain ⟨b, us, ws, e, ho, hb, r, h2⟩ := h
    subst e
    simp only [lent, List.mem_cons] at m
    rcases m with m | m
    · rw [m]; exact ho
    · exact lent_sub h2 m
theorem lent_inj {W : Wd} {O : Addr → Prop} {H : Hp} : ∀ {as : List SV} {vs : List V} {i j : Nat} {l m : Bool} {xs ys : List DV} {a : Addr}, ArgOk W O H as vs → (lent as vs).Nodup → as[i]? = some (.own l xs) → as[j]? = some (.own m ys) → vs[i]? = some (.ref a) → vs[j]? = some (.ref a) → i = j
  | [], vs, i, j, l, m, xs, ys, a, h, nd, h1, _, _, _ => by simp at h1
  | .d y :: as, vs, i, j, l, m, xs, ys, a, h, nd, h1, h2, h3, h4 => by
    obtain ⟨v, ws, e, r, hr⟩ := h
    subst e
    cases i with
    | zero => simp at h1
    | succ i =>
      cases j with
      | zero => simp at h2
      | succ j => exact congrArg (· + 1) (lent_inj hr (by simpa [lent] using nd) (by simpa using h1) (by simpa using h2) (by simpa using h3) (by simpa using h4))
  | .own p zs :: as, vs, i, j, l, m, xs, ys, a, h, nd, h1, h2, h3, h4 => by
    obtain ⟨b, us, ws, e, ho, hb, r, hr⟩ := h
    subst e
    simp only [lent, List.nodup_cons] at nd
    have away : ∀ {k : Nat} {q : Bool} {ts : List DV}, as[k]? = some (.own q ts) → ws[k]? = some (.ref b) → False := fun {k q ts} g1 g2 => by
      obtain ⟨c, us2, g3, _, _, _, g4⟩ := (ArgOk.at (i := k) hr).2 q ts g1
      rw [g2] at g3; cases g3
      exact nd.1 g4
    cases i with
    | zero =>
      cases j with
      | zero => rfl
      | succ j =>
        simp at h3
        subst h3
        exact (away (by simpa using h2) (by simpa using h4)).elim
    | succ i =>
      cases j with
      | zero =>
        simp at h4
        subst h4
        exact (away (by simpa using h1) (by simpa using h3)).elim
      | succ j => exact congrArg (· + 1) (lent_inj hr nd.2 (by simpa using h1) (by simpa using h2) (by simpa using h3) (by simpa using h4))
def adrOf : Option V → Addr
  | some (.ref a) => a
  | _ => 0
/-- the state at a body's entry -/
def ctOf (H : Hp) (O : Addr → Prop) (args : List SV) (vs : List V) : Ct := { H0 := H, B := fun a => a ∈ lent args vs, ba := fun i => adrOf vs[i]?, O0 := O }
theorem start_get {N : List Str} {vs : List V} {i : Nat} {v : V} (h : vs[i]? = some v) : (L2.start N vs)[i]? = some (some v) := by
  unfold L2.start
  have hi := lt_of_get h
  rw [List.getElem?_append_left (by simpa using hi), List.getElem?_map, h]
  rfl
theorem startF_get {N : Nat} {as : List SV} {i : Nat} {x : SV} (h : (startF N as)[i]? = some (some x)) : ∃ y, as[i]? = some y ∧ slotOf y = some x := by
  unfold startF at h
  by_cases hi : i < as.length
  · rw [List.getElem?_append_left (by simpa using hi), List.getElem?_map] at h
    cases q : as[i]? with
    | none => rw [q] at h; cases h
    | some y =>
      rw [q] at h
      exact ⟨y, rfl, Option.some.inj h⟩
  · rw [List.getElem?_append_right (by simpa using hi), List.getElem?_replicate] at h
    split at h <;> cases h
theorem sim_start {W : Wd} {O : Addr → Prop} {H : Hp} {N : List Str} {args : List SV} {vs : List V} (h : ArgOk W O H args vs) (nd : (lent args vs).Nodup) (ho : ∀ a, O a → H a ≠ none) : Sim W O (ctOf H O args vs) (L2.start N vs) (startF N.length args) H := by
  have hl := h.len
  refine ⟨fun i x e => ?_, fun i l xs e => ?_, fun i j l xs m ys a h1 h2 h3 h4 => ?_, ho, fun b o _ e => e, ?_, fun a e => e, ho, fun a e => lent_sub h e⟩
  · obtain ⟨y, h1, h2⟩ := startF_get e
    cases y with
    | own _ _ => cases h2
    | d z =>
      cases h2
      obtain ⟨v, h3, h4⟩ := (ArgOk.at (i := i) h).1 x h1
      exact ⟨v, start_get h3, h4⟩
  · obtain ⟨y, h1, h2⟩ := startF_get e
    cases y with
    | d z => cases h2
    | own m zs =>
      cases h2
      obtain ⟨a, us, h3, h4, h5, h6, h7⟩ := (ArgOk.at (i := i) h).2 m xs h1
      refine ⟨a, us, start_get h3, h4, h5, h6, fun z => (by cases z), fun _ => ⟨?_, h7⟩⟩
      show a = adrOf vs[i]?
      rw [h3]; rfl
  · obtain ⟨y, g1, g2⟩ := startF_get h1
    obtain ⟨z, g3, g4⟩ := startF_get h2
    cases y with
    | d _ => cases g2
    | own l' xs' =>
      cases z with
      | d _ => cases g4
      | own m' ys' =>
        obtain ⟨b, us, q1, _⟩ := (ArgOk.at (i := i) h).2 l' xs' g1
        obtain ⟨c, us2, q2, _⟩ := (ArgOk.at (i := j) h).2 m' ys' g3
        rw [start_get q1] at h3
        rw [start_get q2] at h4
        cases h3
        cases h4
        exact lent_inj h nd g1 g3 q1 q2
  · unfold startF L2.start
    rw [List.length_append, List.length_append, List.length_map, List.length_map, List.length_replicate, List.length_replicate, hl]
theorem outs_ok {W : Wd} {O O' : Addr → Prop} {C : Ct} {H H' : Hp} (hs : ∀ a, O a → O' a) : ∀ {as : List SV} {vs : List V} {fr : Frm} {os : List (List DV)} (k : Nat), ArgOk W O H as vs → outsF as fr = some os →
    (∀ (i : Nat) (xs : List DV), fr[i]? = some (some (.own false xs)) → ∃ a us, a = C.ba (k + i) ∧ H' a = some (.lst us) ∧ Rps W O' H' xs us) → (∀ i, C.ba (k + i) = adrOf vs[i]?) → OutOk W O H' as vs os
  | [], vs, fr, os, k, h, e, _, _ => by simp only [outsF] at e; cases e; rfl
  | .d x :: as, vs, fr, os, k, h, e, g, b => by
    obtain ⟨v, ws, ev, _, h2⟩ := h
    subst ev
    cases fr with
    | nil => simp only [outsF] at e; cases e
    | cons s fr =>
      simp only [outsF] at e
      show OutOk W O H' as ws os
      exact outs_ok (C := C) hs (k + 1) h2 e (fun i xs q => by have := g (i + 1) xs (by simpa using q); rwa [show k + (i + 1) = k + 1 + i by omega] at this) (fun i => by have := b (i + 1); rw [show k + (i + 1) = k + 1 + i by omega] at this; simpa using this)
  | .own l x :: as, vs, fr, os, k, h, e, g, b => by
    obtain ⟨a0, us0, ws, ev, _, _, _, h2⟩ := h
    subst ev
    cases fr with
    | nil => simp only [outsF] at e; cases e
    | cons s fr =>
      cases s with
      | none => simp only [outsF] at e; cases e
      | some s =>
        cases s with
        | d _ => simp only [outsF] at e; cases e
        | own m ys =>
          cases m with
          | true => simp only [outsF] at e; cases e
          | false =>
            simp only [outsF] at e
            cases q : outsF as fr with
            | none => rw [q] at e; cases e
            | some os2 =>
              rw [q] at e; cases e
              obtain ⟨a, us, g1, g2, g3⟩ := g 0 ys rfl
              have hb0 := b 0
              rw [Nat.add_zero] at g1 hb0
              refine ⟨⟨a, us, ?_, g2, Rps.off hs _ _ g3⟩, outs_ok (C := C) hs (k + 1) h2 q (fun i xs q => by have := g (i + 1) xs (by simpa using q); rwa [show k + (i + 1) = k + 1 + i by omega] at this) (fun i => by have := b (i + 1); rw [show k + (i + 1) = k + 1 + i by omega] at this; simpa using this)⟩
              rw [g1, hb0]; rfl
theorem sim_outs {W : Wd} {O O' : Addr → Prop} {H H' : Hp} {σ : L2.St} {fr : Frm} {args : List SV} {vs : List V} {os : List (List DV)} (h : ArgOk W O H args vs) (S : Sim W O' (ctOf H O args vs) σ fr H') (e : outsF args fr = some os) : OutOk W O H' args vs os := by
  refine outs_ok (C := ctOf H O args vs) S.sub0 0 h e (fun i xs q => ?_) fun i => by rw [Nat.zero_add]; rfl
  obtain ⟨a, us, h1, h2, h3, h4, h5, h6⟩ := S.own i false xs q
  exact ⟨a, us, by rw [Nat.zero_add]; exact (h6 rfl).1, h3, h4⟩
theorem body_end {W : Wd} {P : Program} {w : World} {X : Cx} {N : List Str} {n : Nat} {g : SF} {st : List Stmt} {H : Hp} {vs : List V} {Q : VK} {E : XK} (hw : wd X = W) (hb : PDSs X E st g) (h : spD W (runD n N.length g) vs H Q E) :
    ∃ t, PSs X st t ∧ t { nx := fun _ H' => Q .non H', rt := Q } (L2.start N vs) H := by
  subst hw
  refine ⟨_, hb, ?_⟩
  obtain ⟨O, args, res, outs, e, ha, nd, ho, kq, ke⟩ := h
  unfold runD at e
  split at e
  case isFalse => cases e
  have S := sim_start (N := N) ha nd ho
  cases q : g (startF N.length args) with
  | none => simp only [q] at e; cases e
  | some p =>
    obtain ⟨r, fr⟩ := p
    refine ⟨O, ctOf H O args vs, startF N.length args, r, fr, S, q, fun o hr O' σ' H' S' x' l' => ?_, fun y hr O' σ' c d H' S' x' l' ok => ?_⟩
    · subst hr
      cases o with
      | bk => simp only [q] at e; cases e
      | ct => simp only [q] at e; cases e
      | nx =>
        simp only [q] at e
        cases q2 : outsF args fr with
        | none => rw [q2] at e; cases e
        | some os =>
          rw [q2] at e; cases e
          exact kq _ rfl .non H' (fun b o hn hb => S'.keep b o hn hb) (sim_outs ha S' q2) (by simp only [Rp])
      | rt d =>
        simp only [q] at e
        cases q2 : outsF args fr with
        | none => rw [q2] at e; cases e
        | some os =>
          rw [q2] at e; cases e
          exact fun v hv => kq _ rfl v H' (fun b o hn hb => S'.keep b o hn hb) (sim_outs ha S' q2) hv
    · subst hr
      simp only [q] at e
      cases q2 : outsF args fr with
      | none => rw [q2] at e; cases e
      | some os =>
        rw [q2] at e; cases e
        exact ke _ rfl c d H' (fun b o hn hb => S'.keep b o hn hb) (sim_outs ha S' q2) ok
theorem sp_len {W : Wd} {n N : Nat} {g : SF} {ps : List Str} (hn : ps.length = n) : ∀ vs H Q E, spD W (runD n N g) vs H Q E → vs.length = ps.length := fun vs H Q E h => by
  obtain ⟨O, args, res, outs, e, ha, _⟩ := h
  unfold runD at e
  split at e
  · rename_i hl
    rw [hn, ← hl, ha.len]
  · cases e
/-- a def of the text keeps to its mirror -/
theorem fn_mir {P : Program} {w : World} {K : PySem.W.Frag} {mg : Str → Option Value} {base : Heap} {k : Nat} {x qual : Str} {params : Arguments} {bd : List Stmt} {scope : Scope} {dvs : List V} {kws : List (Str × V)} {f : Addr} {fd : FuncData} {N ps : List Str} {n : Nat} {g : SF} (F : FunD K x qual params bd scope dvs kws f fd) (S : FnScope N ps scope) (hn : ps.length = n)
    (body : ∀ (cdv : Value) (A : Around) (outer : List Env) (s : Shared) (H : Hp) (E : XK), Room k (A.deeper (envOfC qual scope s.heap.objs.size f cdv)) → A.guards = some [] → PDSs (cxOf (L2.CX P w) P w K mg base N qual scope f cdv A outer s H E) E bd g) :
    FnG P w K mg base (L2.CX P w) (k + 1) f fd ps (spD ⟨K, mg⟩ (runD n N.length g)) :=
  fnG_of F S (sp_len hn) fun cdv A outer s H vs Q E hr hg hsp => body_end (P := P) (w := w) rfl (body cdv A outer s H E hr hg) hsp
end DL
set_option maxRecDepth 100000
set_option maxHeartbeats 1000000
namespace DL
open PySem PySem.Spec PyProof.Rows L2
/-! ### calls of defs -/
def argF (fr : Frm) : List RV → Option (List SV)
  | [] => some []
  | .d x :: rs => (argF fr rs).map (.d x :: ·)
  | .own i :: rs => match fr[i]? with
    | some (some (.own l xs)) => (argF fr rs).map (.own l xs :: ·)
    | _ => none
def slotsOf : List RV → List Nat
  | [] => []
  | .d _ :: rs => slotsOf rs
  | .own i :: rs => i :: slotsOf rs
def wr1 (i : Nat) (o : List DV) (fr : Frm) : Frm := match fr[i]? with
  | some (some (.own l _)) => fr.set i (some (.own l o))
  | _ => fr
def wr : List RV → List (List DV) → Frm → Frm
  | .d _ :: rs, os, fr => wr rs os fr
  | .own i :: rs, o :: os, fr => wr rs os (wr1 i o fr)
  | _, _, fr => fr
def endFn (m : Mir) (rs : List RV) : EF := fun fr => if (slotsOf rs).Nodup then (match argF fr rs with
  | some as => match m as with
    | some (.ok d, os) => some (.ok (.d d), wr rs os fr)
    | some (.ex e, os) => some (.ex e, wr rs os fr)
    | none => none
  | none => none) else none
def eFn (m : Mir) (f : AF) : EF := M.bnd f (endFn m)
def pick {α : Type} : List Nat → List α → List α
  | [], _ => []
  | i :: is, l => match l[i]? with
    | some a => a :: pick is l
    | none => pick is l
def eFnK (m : Mir) (n : Nat) (is : List Nat) (f : AF) : EF := M.bnd f fun rs => if rs.length = n then endFn m (pick is rs) else M.stk
theorem pat_set {fr : Frm} {j : Nat} {l : Bool} {ys o : List DV} (h : fr[j]? = some (some (.own l ys))) : Pat fr (fr.set j (some (.own l o))) := by
  have hl := lt_of_get h
  intro i
  by_cases e : j = i
  · subst e
    rw [List.getElem?_set_self hl, h]
    exact ⟨fun m xs q => by cases q; exact ⟨o, rfl⟩, fun x q => (by cases q), fun m xs q => by cases q; exact ⟨ys, rfl⟩⟩
  · rw [List.getElem?_set_ne e]
    exact ⟨fun m xs q => ⟨xs, q⟩, fun x q => q, fun m xs q => ⟨xs, q⟩⟩
theorem pat_wr1 {fr : Frm} {j : Nat} {o : List DV} : Pat fr (wr1 j o fr) := by
  unfold wr1
  split
  · rename_i l ys q
    exact pat_set q
  · exact .refl
theorem pat_wr : ∀ {rs : List RV} {os : List (List DV)} {fr : Frm}, Pat fr (wr rs os fr)
  | [], os, fr => by cases os <;> exact .refl
  | .d _ :: rs, os, fr => by simp only [wr]; exact pat_wr
  | .own _ :: rs, [], fr => by simp only [wr]; exact .refl
  | .own i :: rs, o :: os, fr => by simp only [wr]; exact pat_wr1.trans pat_wr
theorem len_wr1 {fr : Frm} {j : Nat} {o : List DV} : (wr1 j o fr).length = fr.length := by
  unfold wr1
  split
  · exact List.length_set ..
  · rfl
theorem len_wr : ∀ {rs : List RV} {os : List (List DV)} {fr : Frm}, (wr rs os fr).length = fr.length
  | [], os, fr => by cases os <;> rfl
  | .d _ :: rs, os, fr => by simp only [wr]; exact len_wr
  | .own _ :: rs, [], fr => by simp only [wr]
  | .own i :: rs, o :: os, fr => by simp only [wr]; rw [len_wr, len_wr1]
theorem Pat.datBack {fr fr' : Frm} (p : Pat fr fr') (hl : fr'.length = fr.length) {i : Nat} {x : DV} (hn : ∀ j : Nat, fr[j]? = some none → fr'[j]? = some none) (h : fr'[i]? = some (some (.d x))) : fr[i]? = some (some (.d x)) := by
  cases q : fr[i]? with
  | none =>
    have := lt_of_get h
    rw [List.getElem?_eq_none_iff] at q
    omega
  | some y =>
    cases y with
    | none => rw [hn i q] at h; cases h
    | some y =>
      cases y with
      | d z => rw [(p i).2.1 z q] at h; exact h
      | own l xs =>
        obtain ⟨ys, e⟩ := (p i).1 l xs q
        rw [e] at h; cases h
theorem none_wr1 {fr : Frm} {i : Nat} {o : List DV} (j : Nat) (h : fr[j]? = some none) : (wr1 i o fr)[j]? = some none := by
  unfold wr1
  split
  · rename_i l ys q
    by_cases e : i = j
    · subst e; rw [h] at q; cases q
    · rw [List.getElem?_set_ne e]; exact h
  · exact h
theorem none_wr : ∀ {rs : List RV} {os : List (List DV)} {fr : Frm} (j : Nat), fr[j]? = some none → (wr rs os fr)[j]? = some none
  | [], os, fr, j, h => by cases os <;> exact h
  | .d _ :: rs, os, fr, j, h => by simp only [wr]; exact none_wr j h
  | .own _ :: rs, [], fr, j, h => by simp only [wr]; exact h
  | .own i :: rs, o :: os, fr, j, h => by simp only [wr]; exact none_wr j (none_wr1 j h)
section
variable {W : Wd} {O : Addr → Prop} {C : Ct} {σ : L2.St} {H H' : Hp}
theorem args_ok {fr : Frm} (S : Sim W O C σ fr H) : ∀ {rs : List RV} {vs : List V} {as : List SV}, RvsOk W O H σ fr rs vs → argF fr rs = some as → ArgOk W O H as vs ∧ (∀ a ∈ lent as vs, ∃ i ∈ slotsOf rs, σ[i]? = some (some (.ref a)) ∧ ∃ l xs, fr[i]? = some (some (.own l xs))) ∧ ((slotsOf rs).Nodup → (lent as vs).Nodup)
  | [], vs, as, h, e => by
    cases e
    cases h
    exact ⟨rfl, fun a m => by simp [lent] at m, fun _ => .nil⟩
  | .d x :: rs, vs, as, h, e => by
    obtain ⟨v, ws, ev, r, h2⟩ := h
    subst ev
    simp only [argF] at e
    cases q : argF fr rs with
    | none => rw [q] at e; cases e
    | some as2 =>
      rw [q] at e; cases e
      obtain ⟨k1, k2, k3⟩ := args_ok S h2 q
      exact ⟨⟨v, ws, rfl, r, k1⟩, k2, k3⟩
  | .own i :: rs, vs, as, h, e => by
    obtain ⟨v, ws, ev, ⟨l, xs, r1, r2⟩, h2⟩ := h
    subst ev
    simp only [argF, r1] at e
    cases q : argF fr rs with
    | none => rw [q] at e; cases e
    | some as2 =>
      rw [q] at e; cases e
      obtain ⟨k1, k2, k3⟩ := args_ok S h2 q
      obtain ⟨a, us, g1, g2, g3, g4, _⟩ := S.own i l xs r1
      rw [r2] at g1; cases g1
      refine ⟨⟨a, us, ws, rfl, g2, g3, g4, k1⟩, fun b m => ?_, fun nd => ?_⟩
      · simp only [lent, List.mem_cons] at m
        rcases m with m | m
        · subst m
          exact ⟨i, List.mem_cons_self .., r2, l, xs, r1⟩
        · obtain ⟨j, m1, m2⟩ := k2 b m
          exact ⟨j, List.mem_cons_of_mem _ m1, m2⟩
      · simp only [slotsOf, List.nodup_cons] at nd
        simp only [lent, List.nodup_cons]
        refine ⟨fun m => ?_, k3 nd.2⟩
        obtain ⟨j, m1, m2, l2, ys, m3⟩ := k2 a m
        have := S.inj i j l xs l2 ys a r1 m3 r2 m2
        subst this
        exact nd.1 m1
theorem out_mem : ∀ {as : List SV} {vs : List V} {os : List (List DV)} {a : Addr}, ArgOk W O H as vs → OutOk W O H' as vs os → a ∈ lent as vs → ∃ us, H' a = some (.lst us)
  | [], vs, os, a, _, _, m => by cases vs <;> simp [lent] at m
  | .d x :: as, vs, os, a, h, k, m => by
    obtain ⟨v, ws, ev, r, h2⟩ := h
    subst ev
    exact out_mem h2 k (by simpa [lent] using m)
  | .own l x :: as, vs, os, a, h, k, m => by
    obtain ⟨b, us, ws, ev, _, _, _, h2⟩ := h
    subst ev
    cases os with
    | nil => exact k.elim
    | cons o os =>
      obtain ⟨⟨c, us2, e, k1, k2⟩, k3⟩ := k
      cases e
      simp only [lent, List.mem_cons] at m
      rcases m with m | m
      · subst m; exact ⟨us2, k1⟩
      · exact out_mem h2 k3 m
theorem wr_own {fr0 : Frm} : ∀ {rs : List RV} {vs : List V} {as : List SV} {os : List (List DV)} {fr : Frm}, RvsOk W O H σ fr0 rs vs → argF fr0 rs = some as → OutOk W O H' as vs os → Pat fr0 fr → ∀ (i : Nat) (l : Bool) (xs : List DV), (wr rs os fr)[i]? = some (some (.own l xs)) →
    ∃ ys, fr[i]? = some (some (.own l ys)) ∧ ((i ∉ slotsOf rs ∧ xs = ys) ∨ ∃ a us, σ[i]? = some (some (.ref a)) ∧ H' a = some (.lst us) ∧ Rps W O H' xs us)
  | [], vs, as, os, fr, h, e, k, p, i, l, xs, q => by
    have q' : fr[i]? = some (some (.own l xs)) := by cases os <;> exact q
    exact ⟨xs, q', .inl ⟨by simp [slotsOf], rfl⟩⟩
  | .d x :: rs, vs, as, os, fr, h, e, k, p, i, l, xs, q => by
    obtain ⟨v, ws, ev, r, h2⟩ := h
    subst ev
    simp only [argF] at e
    cases q2 : argF fr0 rs with
    | none => rw [q2] at e; cases e
    | some as2 =>
      rw [q2] at e; cases e
      exact wr_own h2 q2 k p i l xs q
  | .own j :: rs, vs, as, os, fr, h, e, k, p, i, l, xs, q => by
    obtain ⟨v, ws, ev, ⟨m, zs, r1, r2⟩, h2⟩ := h
    subst ev
    simp only [argF, r1] at e
    cases q2 : argF fr0 rs with
    | none => rw [q2] at e; cases e
    | some as2 =>
      rw [q2] at e; cases e
      cases os with
      | nil => exact k.elim
      | cons o os =>
        obtain ⟨⟨a, us, ea, k1, k2⟩, k3⟩ := k
        subst ea
        obtain ⟨y0, hj⟩ := (p j).1 m zs r1
        have hw : wr1 j o fr = fr.set j (some (.own m o)) := by unfold wr1; rw [hj]
        simp only [wr, hw] at q
        obtain ⟨ys, g1, g2⟩ := wr_own h2 q2 k3 (p.trans (pat_set hj)) i l xs q
        by_cases z : j = i
        · subst z
          rw [List.getElem?_set_self (lt_of_get hj)] at g1
          cases g1
          refine ⟨y0, hj, .inr ?_⟩
          rcases g2 with ⟨_, g3⟩ | g3
          · subst g3; exact ⟨a, us, r2, k1, k2⟩
          · exact g3
        · rw [List.getElem?_set_ne z] at g1
          refine ⟨ys, g1, ?_⟩
          rcases g2 with ⟨g3, g4⟩ | g3
          · refine .inl ⟨?_, g4⟩
            simp only [slotsOf, List.mem_cons, not_or]
            exact ⟨fun w => z w.symm, g3⟩
          · exact .inr g3
/-- behind a call -/
theorem Sim.called {fr : Frm} {rs : List RV} {vs : List V} {as : List SV} {os : List (List DV)} (S : Sim W O C σ fr H) (r : RvsOk W O H σ fr rs vs) (e : argF fr rs = some as) (k : ∀ b o, b ∉ lent as vs → H b = some o → H' b = some o) (ho : OutOk W O H' as vs os) : Sim W O C σ (wr rs os fr) H' ∧ Ext O H O H' ∧ Pat fr (wr rs os fr) := by
  obtain ⟨a1, a2, a3⟩ := args_ok S r e
  have xt : Ext O H O H' := ⟨fun _ h => h, fun _ h => .inl h, fun b x n h => k b x (fun m => n (lent_sub a1 m)) h⟩
  refine ⟨⟨fun i x h => ?_, fun i l xs h => ?_, fun i j l xs m ys a h1 h2 h3 h4 => ?_, fun a h => ?_, fun b o n h => ?_, len_wr.trans S.len, S.sub0, S.trk0, S.subB⟩, xt, pat_wr⟩
  · obtain ⟨v, h1, h2⟩ := S.dat i x (pat_wr.datBack len_wr (fun j => none_wr j) h)
    exact ⟨v, h1, Rp.ext xt x v h2⟩
  · obtain ⟨ys, g1, g2⟩ := wr_own r e ho .refl i l xs h
    obtain ⟨a, us, q1, q2, q3, q4, q5⟩ := S.own i l ys g1
    rcases g2 with ⟨g3, g4⟩ | ⟨b, us2, g3, g4, g5⟩
    · subst g4
      refine ⟨a, us, q1, q2, k a _ (fun m => ?_) q3, Rps.ext xt _ _ q4, q5⟩
      obtain ⟨j, m1, m2, l2, zs, m3⟩ := a2 a m
      have := S.inj i j l xs l2 zs a g1 m3 q1 m2
      subst this
      exact g3 m1
    · rw [q1] at g3; cases g3
      exact ⟨a, us2, q1, q2, g4, g5, q5⟩
  · obtain ⟨z1, g1⟩ := (pat_wr i).2.2 l xs h1
    obtain ⟨z2, g2⟩ := (pat_wr j).2.2 m ys h2
    exact S.inj i j l z1 m z2 a g1 g2 h3 h4
  · by_cases m : a ∈ lent as vs
    · obtain ⟨us, z⟩ := out_mem a1 ho m
      rw [z]; exact fun q => by cases q
    · cases q : H a with
      | none => exact absurd q (S.trk a h)
      | some o => rw [k a o m q]; exact fun q => by cases q
  · refine k b o (fun m => ?_) (S.keep b o n h)
    obtain ⟨j, m1, m2, l2, zs, m3⟩ := a2 b m
    obtain ⟨a, us, q1, q2, q3, q4, q5, q6⟩ := S.own j l2 zs m3
    rw [m2] at q1; cases q1
    cases l2 with
    | true => rw [q5 rfl] at h; cases h
    | false => exact n (q6 rfl).2
theorem ExOk.off {O O' : Addr → Prop} {e : DX} {c : Value} {d : Option Addr} (hs : ∀ a, O' a → O a) (h : ExOk W O H e c d) : ExOk W O' H e c d := by
  obtain ⟨Ca, da, vs, h1, h2, h3, h4, h5⟩ := h
  exact ⟨Ca, da, vs, h1, h2, h3, h4, Rps.off hs _ _ h5⟩
theorem end_fn {E : XK} {Q : VK} {m : Mir} {fr fr' : Frm} {rs : List RV} {vs : List V} {res : Rs RV} (S : Sim W O C σ fr H) (r : RvsOk W O H σ fr rs vs) (e : endFn m rs fr = some (res, fr')) (k : KO W O C σ H fr fr' res Q) (ke : KE W E O C σ H fr' res) : spD W m vs H Q E := by
  unfold endFn at e
  split at e
  case isFalse => cases e
  rename_i nd
  cases q : argF fr rs with
  | none => simp only [q] at e; cases e
  | some as =>
    simp only [q] at e
    obtain ⟨a1, a2, a3⟩ := args_ok S r q
    cases q2 : m as with
    | none => simp only [q2] at e; cases e
    | some p =>
      obtain ⟨z, os⟩ := p
      refine ⟨O, as, z, os, q2, a1, a3 nd, S.trk, fun d hz v H' hk ho hv => ?_, fun y hz c d H' hk ho hy => ?_⟩
      · subst hz
        simp only [q2] at e
        cases e
        obtain ⟨S1, x1, p1⟩ := S.called r q hk ho
        exact k _ rfl v H' S1 x1 p1 hv
      · subst hz
        simp only [q2] at e
        cases e
        obtain ⟨S1, x1, p1⟩ := S.called r q hk ho
        exact ke y rfl c d H' S1 x1 (hy.off S.sub0)
end
/-- a def of the module, at its name -/
structure DefG (P : Program) (w : World) (K : PySem.W.Frag) (mg : Str → Option Value) (base : Heap) (k : Nat) (x : Str) (m : Mir) : Prop where
  ex : ∃ f fd ps, FnG P w K mg base (L2.CX P w) k f fd ps (spD ⟨K, mg⟩ m) ∧ mg x = some (.ref f) ∧ PySem.W.keepIn K (.ref f) = true ∧ Binds K fd ps []
/-- .. called with keywords alone, named ks; the parameters' order is that of is -/
structure KwG (P : Program) (w : World) (K : PySem.W.Frag) (mg : Str → Option Value) (base : Heap) (k : Nat) (x : Str) (m : Mir) (ks : List Str) (is : List Nat) : Prop where
  ex : ∃ f fd ps, FnG P w K mg base (L2.CX P w) k f fd ps (spD ⟨K, mg⟩ m) ∧ mg x = some (.ref f) ∧ PySem.W.keepIn K (.ref f) = true ∧ ∀ (s : Shared) (ws : List Value), ws.length = ks.length → BindsTo s fd ⟨[], ks.zip ws⟩ (ps.zip (pick is ws))
theorem RvsOk.nth {W : Wd} {O : Addr → Prop} {H : Hp} {σ : L2.St} {fr : Frm} : ∀ {rs : List RV} {vs : List V} (i : Nat), RvsOk W O H σ fr rs vs → match rs[i]?, vs[i]? with
    | some r, some v => RvOk W O H σ fr r v
    | none, none => True
    | _, _ => False
  | [], vs, i, h => by cases h; simp
  | r :: rs, vs, i, h => by
    obtain ⟨v, ws, e, h1, h2⟩ := h
    subst e
    cases i with
    | zero => exact h1
    | succ i => exact RvsOk.nth i h2
theorem RvsOk.size {W : Wd} {O : Addr → Prop} {H : Hp} {σ : L2.St} {fr : Frm} : ∀ {rs : List RV} {vs : List V}, RvsOk W O H σ fr rs vs → rs.length = vs.length
  | [], vs, h => by cases h; rfl
  | r :: rs, vs, h => by
    obtain ⟨v, ws, e, h1, h2⟩ := h
    subst e
    rw [List.length_cons, List.length_cons, RvsOk.size h2]
theorem RvsOk.pick {W : Wd} {O : Addr → Prop} {H : Hp} {σ : L2.St} {fr : Frm} {rs : List RV} {vs : List V} (h : RvsOk W O H σ fr rs vs) : ∀ is : List Nat, RvsOk W O H σ fr (DL.pick is rs) (DL.pick is vs)
  | [] => rfl
  | i :: is => by
    have h1 := h.nth i
    have h2 := RvsOk.pick h is
    unfold DL.pick
    cases q1 : rs[i]? with
    | none => cases q2 : vs[i]? with
      | none => exact h2
      | some v => rw [q1, q2] at h1; exact h1.elim
    | some r => cases q2 : vs[i]? with
      | none => rw [q1, q2] at h1; exact h1.elim
      | some v => rw [q1, q2] at h1; exact ⟨v, _, rfl, h1, h2⟩
theorem valsNth : ∀ {vs : List V} {us : List Value} (i : Nat), Vals vs us → match vs[i]?, us[i]? with
    | some v, some u => RelV v u
    | none, none => True
    | _, _ => False
  | _, _, i, .nil => by simp
  | _, _, 0, .cons h1 h2 => h1
  | _, _, i + 1, .cons h1 h2 => valsNth i h2
theorem valsPick {vs : List V} {us : List Value} (h : Vals vs us) : ∀ is : List Nat, Vals (pick is vs) (pick is us)
  | [] => .nil
  | i :: is => by
    have h1 := valsNth i h
    have h2 := valsPick h is
    unfold DL.pick
    cases q1 : vs[i]? with
    | none => cases q2 : us[i]? with
      | none => exact h2
      | some v => rw [q1, q2] at h1; exact h1.elim
    | some r => cases q2 : us[i]? with
      | none => rw [q1, q2] at h1; exact h1.elim
      | some v => rw [q1, q2] at h1; exact .cons h1 h2
section
variable {X : Cx} {E : XK} {x : Str} {k : Nat} {m : Mir} {p pos : Pos}
theorem go_fn {CX : CXT} {f : Addr} {fd : FuncData} {ps : List Str} {sp : Sp} {pins : List (Addr × Obj)} {σ : L2.St} {H : Hp} {s : Shared} {Q : VK} {args : Args} {us : List Value} {vs : List V} (F : FnG X.prog X.w X.K X.mg X.base CX k f fd ps sp) (hgd : X.A.guards = some []) (hr : Room k X.A) (hb : BindsTo s fd args (ps.zip us)) (hx : Passes CX X E) (I : Inv X pins σ H s) (r : Vals vs us) (h : sp vs H Q E) :
    wpAny (model X.prog X.w) X.A (call (.ref f) args.pos args.kw) (EP X pins σ Q) X.xe s := by
  refine wpAny_call (codeAny_mono (F.go X.A X.stack s H args us vs Q E hr hgd I.env0 hb r h) fun out s' hq => ?_)
  cases out with
  | ok fl => cases fl with
    | ret u => exact I.after hq
    | next => exact hq.elim
    | brk => exact hq.elim
    | cont => exact hq.elim
  | error e => exact hx pins σ H s e s' I hq
theorem bind_at {K : PySem.W.Frag} {fd : FuncData} {ps : List Str} {s : Shared} {us : List Value} (hb : Binds K fd ps []) (X : K.In s.heap) (hl : us.length = ps.length) : BindsTo s fd ⟨us, []⟩ (ps.zip us) := by
  have := hb s us X (by rw [List.append_nil]; exact hl)
  rwa [List.append_nil] at this
theorem pd_call {e : Expr} {es : List Expr} {f : AF} (D : DefG X.prog X.w X.K X.mg X.base k x m) (hgd : X.A.guards = some []) (hr : Room k X.A) (hg : Gl X x) (hx : Passes (L2.CX X.prog X.w) X E) (ha : PDA X E (e :: es) f)
    (hdb : (x == ("__debug__" : Str)) = false := by decide) (he : starEach (e :: es) X.env = (false, eval e X.env) :: starEach es X.env := by rfl) (hpl : (backTo pos (starEach es X.env)).any (·.1) = false := by rfl) : PD X E (.Call (.Name x p) (e :: es) [] pos) (eFn m f) := by
  obtain ⟨fa, fd, ps, F, hm, hk, hb⟩ := D.ex
  refine ⟨fun pins s σ H Q I q => ?_⟩
  obtain ⟨O, C, fr, res, fr', S, eq, k, ke⟩ := q
  have q : tA (wd X) E f σ H fun vs H1 => spD (wd X) m vs H1 Q E := tA_bnd S eq ke fun rs fr1 vs H1 e1 S1 x1 p1 ok1 ke1 =>
    end_fn S1 ok1 e1 (fun r hr v H2 S2 x2 p2 ok2 => k r hr v H2 S2 (x1.trans x2) (p1.trans p2) ok2) ke1
  refine wpAny_Call_Name_kw (ld_glob I hg hm ?_ hdb)
  refine PySem.W.callWith_K (h₀ := X.base) I.ok.mod.kin hk (thn (ha.run pos pins s σ H _ I q) fun us s1 ⟨vs, H1, I1, r, q⟩ => ⟨I1.kIn, ?_⟩) he hpl
  exact go_fn (args := ⟨us, []⟩) F hgd hr (bind_at hb I1.kIn (by rw [← r.length]; exact F.len _ _ _ _ q)) hx I1 r q
theorem pd_call0 (D : DefG X.prog X.w X.K X.mg X.base k x m) (hgd : X.A.guards = some []) (hr : Room k X.A) (hg : Gl X x) (hx : Passes (L2.CX X.prog X.w) X E) (hdb : (x == ("__debug__" : Str)) = false := by decide) : PD X E (.Call (.Name x p) [] [] pos) (eFn m aNil) := by
  obtain ⟨fa, fd, ps, F, hm, hk, hb⟩ := D.ex
  refine ⟨fun pins s σ H Q I q => ?_⟩
  obtain ⟨O, C, fr, res, fr', S, eq, k, ke⟩ := q
  have q : spD (wd X) m [] H Q E := end_fn S (rs := []) rfl eq k ke
  refine wpAny_Call_Name_kw (ld_glob I hg hm ?_ hdb)
  exact PySem.W.callWith_K0 I.kIn hk (go_fn (args := ⟨[], []⟩) (us := []) F hgd hr (bind_at hb I.kIn (F.len _ _ _ _ q)) hx I .nil q)
/-- keywords' values -/
abbrev PDK (X : Cx) (E : XK) (kws : List Keyword) (f : AF) : Prop := PK X kws (tA (wd X) E f)
theorem PK_imp {kws : List Keyword} {t t' : TA} (h : PK X kws t) (k : ∀ σ H Q, t' σ H Q → t σ H Q) : PK X kws t' := ⟨fun w pins s σ H Q I q => h.run w pins s σ H Q I (k σ H Q q)⟩
theorem pdk_nil : PDK X E [] aNil := PK_imp pk_nil fun σ H Q q => by
  obtain ⟨O, C, fr, res, fr', S, e, k, ke⟩ := q
  cases e
  exact k _ rfl [] H S .refl .refl rfl
theorem pdk_cons {nm : Option Str} {e : Expr} {kpos : Pos} {kws : List Keyword} {f : EF} {g : AF} (h1 : PD X E e f) (h2 : PDK X E kws g) : PDK X E (⟨nm, e, kpos⟩ :: kws) (aCons f g) := by
  refine PK_imp (pk_cons h1 h2) fun σ H Q q => ?_
  obtain ⟨O, C, fr, res, fr', S, e, k, ke⟩ := q
  unfold aCons at e
  refine tD_bnd S e ke fun r fr1 v H1 e S1 x1 p1 ok1 ke => ?_
  refine tA_bnd S1 e ke fun rs fr2 vs H2 e S2 x2 p2 ok2 ke => ?_
  cases e
  exact k _ rfl (v :: vs) H2 S2 (x1.trans x2) (p1.trans p2) ⟨v, vs, rfl, ok1.go x2 p2, ok2⟩
theorem pd_callK {kws : List Keyword} {f : AF} {ks : List Str} {is : List Nat} {n : Nat} (D : KwG X.prog X.w X.K X.mg X.base k x m ks is) (hgd : X.A.guards = some []) (hr : Room k X.A) (hg : Gl X x) (hx : Passes (L2.CX X.prog X.w) X E) (ha : PDK X E kws f) (hall : (backToKw pos (keywordEach kws X.env)).all (·.1.isSome) = true := by rfl)
    (hks : (backToKw pos (keywordEach kws X.env)).filterMap (·.1) = ks := by rfl) (hdb : (x == ("__debug__" : Str)) = false := by decide) (hpl : ((backTo pos (starEach [] X.env)).any (·.1) || (backToKw pos (keywordEach kws X.env)).any (·.1.isNone)) = false := by rfl) (hn : ks.length = n := by rfl) : PD X E (.Call (.Name x p) [] kws pos) (eFnK m n is f) := by
  subst hn
  obtain ⟨fa, fd, ps, F, hm, hk, hb⟩ := D.ex
  refine ⟨fun pins s σ H Q I q => ?_⟩
  obtain ⟨O, C, fr, res, fr', S, eq, k, ke⟩ := q
  have q : tA (wd X) E f σ H fun vs H1 => vs.length = ks.length ∧ spD (wd X) m (pick is vs) H1 Q E := tA_bnd S eq ke fun rs fr1 vs H1 e1 S1 x1 p1 ok1 ke1 => by
    split at e1
    · rename_i hl
      exact ⟨by rw [← ok1.size, hl], end_fn S1 (ok1.pick is) e1 (fun r hr v H2 S2 x2 p2 ok2 => k r hr v H2 S2 (x1.trans x2) (p1.trans p2) ok2) ke1⟩
    · cases e1
  refine wpAny_Call_Name_kw (ld_glob I hg hm ?_ hdb)
  refine PySem.W.callWith_KW0 (h₀ := X.base) I.ok.mod.kin hk hall (thn (ha.run pos pins s σ H _ I q) fun us s1 ⟨vs, H1, I1, r, l, q⟩ => ⟨I1.kIn, ?_⟩) hpl
  rw [hks]
  exact go_fn (args := ⟨[], ks.zip us⟩) F hgd hr (hb s1 us (by rw [← r.length, l])) hx I1 (valsPick r is) q
end
end DL
set_option maxRecDepth 100000
set_option maxHeartbeats 1000000
namespace DL
open PySem PySem.Spec PyProof.Rows L2
/-! ### more new lists -/
def WantL (W : Wd) (O : Addr → Prop) (H : Hp) (ds : List DV) (Q : VK) : Prop := ∀ p vs, H p = none → Rps W O H ds vs → Q (.ref p) (upd H p (.lst vs))
/-- where a fresh list stands behind a state -/
theorem lst_end {W : Wd} {O : Addr → Prop} {C : Ct} {σ : L2.St} {fr fr1 fr' : Frm} {H H1 : Hp} {ds : List DV} {res : Rs (List DV)} {Q : VK} (S : Sim W O C σ fr1 H1) (x1 : Ext O H O H1) (p1 : Pat fr fr1) (e : some (Rs.ok ds, fr1) = some (res, fr'))
    (k : ∀ ds, res = .ok ds → ∀ p vs H', Sim W (fun a => O a ∨ a = p) C σ fr' H' → Ext O H (fun a => O a ∨ a = p) H' → Pat fr fr' → ¬ O p → C.H0 p = none → H' p = some (.lst vs) → Rps W (fun a => O a ∨ a = p) H' ds vs → Q (.ref p) H') : WantL W O H1 ds Q := fun p vs hp r => by
  cases e
  exact k ds rfl p vs _ (S.also hp) (x1.trans (ext_also hp)) p1 (S.fresh hp) (S.unborn hp) upd_same (Rps.ext (ext_also hp) _ _ r)
abbrev g2L := DV → DV → Option (List DV)
def OpL (W : Wd) (r : R2) (g : g2L) : Prop := ∀ (O : Addr → Prop) (H : Hp) (x y : DV) (ds : List DV) (v u : V) (Q : VK), RpW W O H x v → RpW W O H y u → g x y = some ds → WantL W O H ds Q → r v u H Q
def lBin (g : g2L) (fa fb : EF) : LF := M.bnd fa fun x => M.bnd fb fun y => fun fr => match snap fr x, snap fr y with
  | some d, some e => (g d e).map fun z => (.ok z, fr)
  | _, _ => none
section
variable {X : Cx} {E : XK}
theorem pl_bin {o : Operator} {a b : Expr} {r : R2} {g : g2L} {fa fb : EF} {pos : Pos} (ho : OpR X (binaryOp o) r) (hg : OpL (wd X) r g) (ha : PD X E a fa) (hb : PD X E b fb) : PDL X E (.BinOp a o b pos) (lBin g fa fb) := by
  refine PE_imp (pe_op ho ha hb) fun σ H Q h => ?_
  obtain ⟨O, C, fr, res, fr', S, e, k, ke⟩ := h
  refine tD_bnd S e ke fun x fr1 v H1 e S1 x1 p1 ok1 ke => ?_
  refine tD_bnd S1 e ke fun y fr2 u H2 e S2 x2 p2 ok2 ke => ?_
  cases q1 : snap fr2 x with
  | none => simp only [q1] at e; cases e
  | some d =>
    cases q2 : snap fr2 y with
    | none => simp only [q1, q2] at e; cases e
    | some d2 =>
      simp only [q1, q2] at e
      cases q3 : g d d2 with
      | none => rw [q3] at e; cases e
      | some z =>
        rw [q3] at e
        exact hg O H2 d d2 z v u Q (snap_ok S2 (ok1.go x2 p2) q1) (snap_ok S2 ok2 q2) q3 (lst_end S2 (x1.trans x2) (p1.trans p2) e k)
end
theorem Rps.flat {W : Wd} {O : Addr → Prop} {H : Hp} {ds : List DV} {vs : List V} (r : Rps W O H ds vs) : ∀ n : Nat, Rps W O H (List.replicate n ds).flatten (List.replicate n vs).flatten
  | 0 => by simp only [List.replicate, List.flatten, Rps]
  | n + 1 => by rw [List.replicate_succ, List.replicate_succ, List.flatten_cons, List.flatten_cons]; exact r.app (Rps.flat r n)
def gRep : g2L := fun x y => match x, y with
  | .lst xs, .int k => if -(2 ^ 63) ≤ k ∧ k < 2 ^ 63 ∧ xs.length * k.toNat ≤ LIM then some (List.replicate k.toNat xs).flatten else none
  | _, _ => none
theorem od_rep {W : Wd} : OpL W rRep gRep := fun O H x y ds v u Q hx hy e k => by
  unfold gRep at e
  split at e
  · split at e
    · rename_i hl
      cases e
      obtain ⟨a, vs, h1, h2, h3⟩ := hx.lst
      rw [h1, hy.int]
      exact ⟨a, _, vs, rfl, rfl, h2, hl.1, hl.2.1, by rw [← h3.len]; exact lim_le hl.2.2, fun p hp => k p _ hp (h3.flat _)⟩
    · cases e
  · cases e
def gCat : g2L := fun x y => match x, y with
  | .lst xs, .lst ys => if xs.length + ys.length ≤ LIM then some (xs ++ ys) else none
  | _, _ => none
theorem od_cat {W : Wd} : OpL W rCat gCat := fun O H x y ds v u Q hx hy e k => by
  unfold gCat at e
  split at e
  · split at e
    · rename_i hl
      cases e
      obtain ⟨a, vs, h1, h2, h3⟩ := hx.lst
      obtain ⟨b, us, g1, g2, g3⟩ := hy.lst
      rw [h1, g1]
      exact ⟨a, b, vs, us, rfl, rfl, h2, g2, by rw [← h3.len, ← g3.len]; exact lim_le hl, fun p hp => k p _ hp (h3.app g3)⟩
    · cases e
  · cases e
/-- list(..) -/
def lList (f : AF) : LF := M.bnd f fun rs => fun fr => match snaps fr rs with
  | some [d] => (seqOf d).bind fun xs => match d with
    | .str _ => none
    | _ => some (.ok xs, fr)
  | _ => none
section
variable {X : Cx} {E : XK}
theorem pl_list {x : Str} {p pos : Pos} {e : Expr} {es : List Expr} {f : AF} (hg : Gl X x) (hm : X.mg x = none) (hv : bootBuiltins x = some (.type "list")) (ha : PDA X E (e :: es) f)
    (hn : x ≠ "__name__" := by decide) (hdb : (x == ("__debug__" : Str)) = false := by decide) (he : starEach (e :: es) X.env = (false, eval e X.env) :: starEach es X.env := by rfl) (hpl : (backTo pos (starEach es X.env)).any (·.1) = false := by rfl) : PDL X E (.Call (.Name x p) (e :: es) [] pos) (lList f) := by
  refine PE_imp (pe_callTy call_list_of hg hm hv ha hn hdb he hpl) fun σ H Q h => ?_
  obtain ⟨O, C, fr, res, fr', S, e, k, ke⟩ := h
  refine tA_bnd S e ke fun rs fr1 vs H1 e S1 x1 p1 ok1 ke => ?_
  cases q1 : snaps fr1 rs with
  | none => simp only [q1] at e; cases e
  | some ds =>
    simp only [q1] at e
    obtain ⟨l1, h1⟩ := snaps_ok S1 q1 ok1
    split at e
    · rename_i d hd
      cases hd
      cases q2 : seqOf d with
      | none => rw [q2] at e; cases e
      | some xs =>
        rw [q2] at e
        simp only [Option.bind_some] at e
        obtain ⟨v, ev, hx⟩ := one_of l1 h1
        subst ev
        obtain ⟨a, us, e1, h2, r⟩ := seqOf_ok q2 hx
        subst e1
        have e' : some (Rs.ok xs, fr1) = some (res, fr') := by
          cases d <;> first | exact e | cases e
        exact ⟨a, us, rfl, h2, fun l hl => lst_end S1 x1 p1 e' k l us hl r⟩
    · cases e
/-- a slice of a list -/
def lSl (f : EF) (lo hi : OF) : LF := M.bnd f fun x => M.bnd lo fun l => M.bnd hi fun u => fun fr => match snap fr x with
  | some (.lst xs) => some (.ok (cutD xs l u), fr)
  | some (.scr xs) => some (.ok (cutD xs l u), fr)
  | _ => none
theorem pl_sl {e : Expr} {lo hi : Option Expr} {f : EF} {gl gu : OF} {p2 pos : Pos} (he : PD X E e f) (hl : PDO X E lo gl) (hu : PDO X E hi gu) : PDL X E (.Subscript e (.Slice lo hi none p2) pos) (lSl f gl gu) := by
  refine PE_imp (pe_slice sl_list he hl hu) fun σ H Q h => ?_
  obtain ⟨O, C, fr, res, fr', S, e, k, ke⟩ := h
  refine tD_bnd S e ke fun x fr1 v H1 e S1 x1 p1 ok1 ke => ?_
  refine tO_bnd S1 e ke fun l fr2 H2 e S2 x2 p2 ke => ?_
  refine tO_bnd S2 e ke fun u fr3 H3 e S3 x3 p3 ke => ?_
  have ok3 := (ok1.go x2 p2).go x3 p3
  split at e
  · rename_i xs q1
    obtain ⟨a, us, e1, h2, r⟩ := (snap_ok S3 ok3 q1).lst
    exact ⟨a, us, e1, SqL.of h2, fun p hp => lst_end S3 ((x1.trans x2).trans x3) ((p1.trans p2).trans p3) e k p _ hp (cutD_ok r l u)⟩
  · rename_i xs q1
    obtain ⟨a, us, e1, h2, r⟩ := (snap_ok S3 ok3 q1).scr
    exact ⟨a, us, e1, h2, fun p hp => lst_end S3 ((x1.trans x2).trans x3) ((p1.trans p2).trans p3) e k p _ hp (cutD_ok r l u)⟩
  · cases e
/-- x if c else y of new lists -/
def lIf (t : TF) (f g : LF) : LF := M.bnd t fun b => if b then f else g
theorem tL_on {W : Wd} {O : Addr → Prop} {C : Ct} {σ : L2.St} {fr fr1 fr' : Frm} {H H1 : Hp} {f : LF} {res : Rs (List DV)} {Q : VK} (S : Sim W O C σ fr1 H1) (x1 : Ext O H O H1) (p1 : Pat fr fr1) (e : f fr1 = some (res, fr')) (ke : KE W E O C σ H1 fr' res)
    (k : ∀ ds, res = .ok ds → ∀ p vs H', Sim W (fun a => O a ∨ a = p) C σ fr' H' → Ext O H (fun a => O a ∨ a = p) H' → Pat fr fr' → ¬ O p → C.H0 p = none → H' p = some (.lst vs) → Rps W (fun a => O a ∨ a = p) H' ds vs → Q (.ref p) H') : tL W E f σ H1 Q :=
  ⟨O, C, fr1, res, fr', S, e, fun ds hd p vs H' S2 x2 p2 n1 n2 h r => k ds hd p vs H' S2 (x1.trans x2) (p1.trans p2) n1 n2 h r, ke⟩
theorem pl_if {c a b : Expr} {t : TF} {f g : LF} {pos : Pos} (hc : PDT X E c t) (ha : PDL X E a f) (hb : PDL X E b g) : PDL X E (.IfExp c a b pos) (lIf t f g) := by
  refine PE_imp (pe_ifExp hc ha hb) fun σ H Q h => ?_
  obtain ⟨O, C, fr, res, fr', S, e, k, ke⟩ := h
  refine tT_bnd S e ke fun b fr1 H1 e S1 x1 p1 ke => ?_
  cases b with
  | true => simp only [if_true]; exact tL_on S1 x1 p1 (by simpa using e) ke k
  | false => simp only [Bool.false_eq_true, if_false]; exact tL_on S1 x1 p1 (by simpa using e) ke k

/-! ### stores -/
theorem tL_data {W : Wd} {σ : L2.St} {H : Hp} {f : LF} {Q : VK} (q : tD W E (eLst f) σ H Q) : tL W E f σ H Q := by
  obtain ⟨O, C, fr, res, fr', S, e, k, ke⟩ := q
  refine tL_bnd S e ke fun ds fr1 p vs H1 e S1 x1 p1 n1 n2 h1 r1 => ?_
  cases e
  exact k _ rfl _ _ (S1.less S.sub0 S.subB (apart_of S p1 n1)) ⟨fun _ h => h, fun _ h => .inl h, x1.fut⟩ p1 (by simp only [RvOk, Rp]; exact ⟨p, vs, rfl, ⟨n1, h1⟩, Rps.off (fun _ h => .inl h) _ _ r1⟩)
theorem name_end {W : Wd} {i : Nat} {f : EF} {D : Ends} {σ : L2.St} {H : Hp} (q : tS W E (sSet (.nm i) f) D σ H) : tD W E f σ H fun v H1 => gName i v σ H1 D.nx := by
  obtain ⟨O, C, fr, res, fr', S, e, k, kx⟩ := q
  refine tD_bnd S e (kx.ke rfl) fun x fr1 v H1 e S1 x1 p1 ok1 ke => ?_
  cases x with
  | own i => cases e
  | d x =>
    simp only [Tg.put] at e
    split at e
    · rename_i hl
      cases e
      exact k _ rfl O _ H1 (S1.set ok1 hl) x1 (List.length_set ..)
    · cases e
section
variable {i : Nat} {y : Str} {py : Pos} {elt tg iter : Expr} {ifs : List Expr} {scope : Scope} {own : List (Str × Nat)} {pos spos : Pos} {T : Tg} {fi : IF} {tt : TF} {fe : EF}
/-- y = [.. for ..], where the block's names and y are stored together -/
theorem pds_setC (hN : X.N.Nodup) (hy : X.N[i]? = some y) (hyl : X.env.scope.names.lookup y = some .local) (hsw : swapsWith (.ListComp elt [⟨tg, iter, ifs, 0⟩] scope pos) (some (.Name y py)) spos.line X.env = pure true) (ho : own.map (·.2) = T.slots) (hc : X.calm = true) (hi : PDI X E tg iter fi) (ok : BlkOk X.N X.env.scope scope own)
    (hg : ∀ (s : Shared) (H : Hp) (Cl : Addr) (cl : List (Str × Addr)) (fp : List Addr), PDG (X.blk s H scope (compEnvC scope cl Cl X.env) fp) tg T) (ht : ∀ (s : Shared) (H : Hp) (Cl : Addr) (cl : List (Str × Addr)) (fp : List Addr), PDTs (X.blk s H scope (compEnvC scope cl Cl X.env) fp) E0 ifs tt)
    (he : ∀ (s : Shared) (H : Hp) (Cl : Addr) (cl : List (Str × Addr)) (fp : List Addr), PD (X.blk s H scope (compEnvC scope cl Cl X.env) fp) E0 elt fe) (hs : ∀ x, foldedSetIterable iter X.env x = pure x := by intro _; rfl) :
    PDS X E (.Assign [.Name y py] (.ListComp elt [⟨tg, iter, ifs, 0⟩] scope pos) spos) (sSet (.nm i) (eLst (lComp T fi tt fe))) :=
  PS_imp (ps_setLc (g := tG (wd X) T) (tt := tT (wd X) E0 tt) (te := tD (wd X) E0 fe) hc hN hy hyl hsw hi ok hg ht he hs) fun D σ H q => lc_imp ho σ H _ (tL_data (name_end q))
/-- .. as one's own -/
theorem pds_ownC (hN : X.N.Nodup) (hy : X.N[i]? = some y) (hyl : X.env.scope.names.lookup y = some .local) (hsw : swapsWith (.ListComp elt [⟨tg, iter, ifs, 0⟩] scope pos) (some (.Name y py)) spos.line X.env = pure true) (ho : own.map (·.2) = T.slots) (hc : X.calm = true) (hi : PDI X E tg iter fi) (ok : BlkOk X.N X.env.scope scope own)
    (hg : ∀ (s : Shared) (H : Hp) (Cl : Addr) (cl : List (Str × Addr)) (fp : List Addr), PDG (X.blk s H scope (compEnvC scope cl Cl X.env) fp) tg T) (ht : ∀ (s : Shared) (H : Hp) (Cl : Addr) (cl : List (Str × Addr)) (fp : List Addr), PDTs (X.blk s H scope (compEnvC scope cl Cl X.env) fp) E0 ifs tt)
    (he : ∀ (s : Shared) (H : Hp) (Cl : Addr) (cl : List (Str × Addr)) (fp : List Addr), PD (X.blk s H scope (compEnvC scope cl Cl X.env) fp) E0 elt fe) (hs : ∀ x, foldedSetIterable iter X.env x = pure x := by intro _; rfl) :
    PDS X E (.Assign [.Name y py] (.ListComp elt [⟨tg, iter, ifs, 0⟩] scope pos) spos) (sOwn i (lComp T fi tt fe)) :=
  PS_imp (ps_setLc (g := tG (wd X) T) (tt := tT (wd X) E0 tt) (te := tD (wd X) E0 fe) hc hN hy hyl hsw hi ok hg ht he hs) fun D σ H q => by
    obtain ⟨O, C, fr, res, fr', S, e, k, kx⟩ := q
    exact lc_imp ho σ H _ (own_end S e k kx fun v H' h => h)
end
/-! a, b = x, y stored from the right -/
def sPar2 (i j : Nat) (fa fb : EF) : SF := M.bnd fa fun a => M.bnd fb fun b => fun fr => match a, b with
  | .d x, .d y => if i < fr.length ∧ j < fr.length then some (.ok .nx, (fr.set i (some (.d x))).set j (some (.d y))) else none
  | _, _ => none
def sPar3 (i j l : Nat) (fa fb fc : EF) : SF := M.bnd fa fun a => M.bnd fb fun b => M.bnd fc fun c => fun fr => match a, b, c with
  | .d x, .d y, .d z => if i < fr.length ∧ j < fr.length ∧ l < fr.length then some (.ok .nx, ((fr.set i (some (.d x))).set j (some (.d y))).set l (some (.d z))) else none
  | _, _, _ => none
def sPar2L (i j : Nat) (fa : EF) (fl : LF) : SF := M.bnd fa fun a => M.bnd fl fun ds => fun fr => match a with
  | .d x => if i < fr.length ∧ j < fr.length then some (.ok .nx, (fr.set i (some (.d x))).set j (some (.own true ds))) else none
  | _ => none
def sPar3L (i j l : Nat) (fa fb : EF) (fl : LF) : SF := M.bnd fa fun a => M.bnd fb fun b => M.bnd fl fun ds => fun fr => match a, b with
  | .d x, .d y => if i < fr.length ∧ j < fr.length ∧ l < fr.length then some (.ok .nx, ((fr.set i (some (.d x))).set j (some (.d y))).set l (some (.own true ds))) else none
  | _, _ => none
theorem Apart.set {σ : L2.St} {fr : Frm} {p : Addr} {i : Nat} {v : V} {x : DV} (h : Apart σ fr p) : Apart (σ.set i (some v)) (fr.set i (some (.d x))) p := fun j l xs hj => by
  by_cases e : i = j
  · subst e
    rw [List.getElem?_set_self (by have := lt_of_get hj; rwa [List.length_set] at this)] at hj
    cases hj
  · rw [List.getElem?_set_ne e] at hj ⊢
    exact h j l xs hj
section
variable {i j l : Nat} {x y z : Str} {a b c : Expr} {fa fb fc : EF} {fl : LF} {px py pz pt pos : Pos} {kt k2 pt2}
theorem pds_par2 (hc : X.calm = true) (hN : X.N.Nodup) (hi : X.N[i]? = some x) (hj : X.N[j]? = some y) (hij : i ≠ j) (hx : X.env.scope.names.lookup x = some .local) (hy : X.env.scope.names.lookup y = some .local) (ha : PD X E a fa) (hb : PD X E b fb)
    (hw : swappedStores [.Tuple [.Name x px, .Name y py] kt pt] (.Tuple [a, b] k2 pt2) X.env = pure (some [x, y])) (hs : swapsWithSole [.Tuple [.Name x px, .Name y py] kt pt] (.Tuple [a, b] k2 pt2) pos.line X.env = pure false := by rfl)
    (s1 : starEach [a, b] X.env = (false, eval a X.env) :: starEach [b] X.env := by rfl) (s2 : starEach [b] X.env = (false, eval b X.env) :: starEach [] X.env := by rfl) : PDS X E (.Assign [.Tuple [.Name x px, .Name y py] kt pt] (.Tuple [a, b] k2 pt2) pos) (sPar2 i j fa fb) := by
  refine PS_imp (ps_par hc hN hi hj hij hx hy (pa_cons ha (pa_cons hb pa_nil s2) s1) hw hs) fun D σ H q => ?_
  obtain ⟨O, C, fr, res, fr', S, e, k, kx⟩ := q
  refine tD_bnd S e (kx.ke rfl) fun r1 fr1 v1 H1 e S1 x1 p1 ok1 ke => ?_
  refine tD_bnd S1 e ke fun r2 fr2 v2 H2 e S2 x2 p2 ok2 ke => ?_
  split at e
  · split at e
    · rename_i hl
      cases e
      refine ⟨v1, v2, rfl, k _ rfl O _ H2 ((S2.set (ok1.go x2 p2) hl.1).set ok2 (by rw [List.length_set]; exact hl.2)) (x1.trans x2) (by rw [List.length_set, List.length_set])⟩
    · cases e
  · cases e
theorem pds_par2L (hc : X.calm = true) (hN : X.N.Nodup) (hi : X.N[i]? = some x) (hj : X.N[j]? = some y) (hij : i ≠ j) (hx : X.env.scope.names.lookup x = some .local) (hy : X.env.scope.names.lookup y = some .local) (ha : PD X E a fa) (hb : PDL X E b fl)
    (hw : swappedStores [.Tuple [.Name x px, .Name y py] kt pt] (.Tuple [a, b] k2 pt2) X.env = pure (some [x, y])) (hs : swapsWithSole [.Tuple [.Name x px, .Name y py] kt pt] (.Tuple [a, b] k2 pt2) pos.line X.env = pure false := by rfl)
    (s1 : starEach [a, b] X.env = (false, eval a X.env) :: starEach [b] X.env := by rfl) (s2 : starEach [b] X.env = (false, eval b X.env) :: starEach [] X.env := by rfl) : PDS X E (.Assign [.Tuple [.Name x px, .Name y py] kt pt] (.Tuple [a, b] k2 pt2) pos) (sPar2L i j fa fl) := by
  refine PS_imp (ps_par hc hN hi hj hij hx hy (pa_cons ha (pa_cons hb pa_nil s2) s1) hw hs) fun D σ H q => ?_
  obtain ⟨O, C, fr, res, fr', S, e, k, kx⟩ := q
  refine tD_bnd S e (kx.ke rfl) fun r1 fr1 v1 H1 e S1 x1 p1 ok1 ke => ?_
  refine tL_bnd S1 e ke fun ds fr2 p vs H2 e S2 x2 p2 n1 n2 h2 r2 => ?_
  split at e
  · split at e
    · rename_i hl
      cases e
      refine ⟨v1, .ref p, rfl, k _ rfl _ _ H2 ((S2.set (Rp.ext x2 _ _ ok1) hl.1).setOwn (.inr rfl) n2 h2 r2 (apart_of S1 p2 n1).set (by rw [List.length_set]; exact hl.2)) (x1.trans x2) (by rw [List.length_set, List.length_set])⟩
    · cases e
  · cases e
theorem pds_par3 (hc : X.calm = true) (hN : X.N.Nodup) (hi : X.N[i]? = some x) (hj : X.N[j]? = some y) (hl : X.N[l]? = some z) (hij : i ≠ j) (hil : i ≠ l) (hjl : j ≠ l) (hx : X.env.scope.names.lookup x = some .local) (hy : X.env.scope.names.lookup y = some .local) (hz : X.env.scope.names.lookup z = some .local) (ha : PD X E a fa) (hb : PD X E b fb) (hcc : PD X E c fc)
    (hw : swappedStores [.Tuple [.Name x px, .Name y py, .Name z pz] kt pt] (.Tuple [a, b, c] k2 pt2) X.env = pure (some [x, y, z])) (hs : swapsWithSole [.Tuple [.Name x px, .Name y py, .Name z pz] kt pt] (.Tuple [a, b, c] k2 pt2) pos.line X.env = pure false := by rfl)
    (s1 : starEach [a, b, c] X.env = (false, eval a X.env) :: starEach [b, c] X.env := by rfl) (s2 : starEach [b, c] X.env = (false, eval b X.env) :: starEach [c] X.env := by rfl) (s3 : starEach [c] X.env = (false, eval c X.env) :: starEach [] X.env := by rfl) :
    PDS X E (.Assign [.Tuple [.Name x px, .Name y py, .Name z pz] kt pt] (.Tuple [a, b, c] k2 pt2) pos) (sPar3 i j l fa fb fc) := by
  refine PS_imp (ps_par3 hc hN hi hj hl hij hil hjl hx hy hz (pa_cons ha (pa_cons hb (pa_cons hcc pa_nil s3) s2) s1) hw hs) fun D σ H q => ?_
  obtain ⟨O, C, fr, res, fr', S, e, k, kx⟩ := q
  refine tD_bnd S e (kx.ke rfl) fun r1 fr1 v1 H1 e S1 x1 p1 ok1 ke => ?_
  refine tD_bnd S1 e ke fun r2 fr2 v2 H2 e S2 x2 p2 ok2 ke => ?_
  refine tD_bnd S2 e ke fun r3 fr3 v3 H3 e S3 x3 p3 ok3 ke => ?_
  split at e
  · split at e
    · rename_i hl
      cases e
      exact ⟨v1, v2, v3, rfl, k _ rfl O _ H3 (((S3.set ((ok1.go x2 p2).go x3 p3) hl.1).set (ok2.go x3 p3) (by rw [List.length_set]; exact hl.2.1)).set ok3 (by rw [List.length_set, List.length_set]; exact hl.2.2)) ((x1.trans x2).trans x3) (by rw [List.length_set, List.length_set, List.length_set])⟩
    · cases e
  · cases e
theorem pds_par3L (hc : X.calm = true) (hN : X.N.Nodup) (hi : X.N[i]? = some x) (hj : X.N[j]? = some y) (hl : X.N[l]? = some z) (hij : i ≠ j) (hil : i ≠ l) (hjl : j ≠ l) (hx : X.env.scope.names.lookup x = some .local) (hy : X.env.scope.names.lookup y = some .local) (hz : X.env.scope.names.lookup z = some .local) (ha : PD X E a fa) (hb : PD X E b fb) (hcc : PDL X E c fl)
    (hw : swappedStores [.Tuple [.Name x px, .Name y py, .Name z pz] kt pt] (.Tuple [a, b, c] k2 pt2) X.env = pure (some [x, y, z])) (hs : swapsWithSole [.Tuple [.Name x px, .Name y py, .Name z pz] kt pt] (.Tuple [a, b, c] k2 pt2) pos.line X.env = pure false := by rfl)
    (s1 : starEach [a, b, c] X.env = (false, eval a X.env) :: starEach [b, c] X.env := by rfl) (s2 : starEach [b, c] X.env = (false, eval b X.env) :: starEach [c] X.env := by rfl) (s3 : starEach [c] X.env = (false, eval c X.env) :: starEach [] X.env := by rfl) :
    PDS X E (.Assign [.Tuple [.Name x px, .Name y py, .Name z pz] kt pt] (.Tuple [a, b, c] k2 pt2) pos) (sPar3L i j l fa fb fl) := by
  refine PS_imp (ps_par3 hc hN hi hj hl hij hil hjl hx hy hz (pa_cons ha (pa_cons hb (pa_cons hcc pa_nil s3) s2) s1) hw hs) fun D σ H q => ?_
  obtain ⟨O, C, fr, res, fr', S, e, k, kx⟩ := q
  refine tD_bnd S e (kx.ke rfl) fun r1 fr1 v1 H1 e S1 x1 p1 ok1 ke => ?_
  refine tD_bnd S1 e ke fun r2 fr2 v2 H2 e S2 x2 p2 ok2 ke => ?_
  refine tL_bnd S2 e ke fun ds fr3 p vs H3 e S3 x3 p3 n1 n2 h3 r3 => ?_
  split at e
  · split at e
    · rename_i hl
      cases e
      exact ⟨v1, v2, .ref p, rfl, k _ rfl _ _ H3 (((S3.set (Rp.ext x3 _ _ (ok1.go x2 p2)) hl.1).set (Rp.ext x3 _ _ ok2) (by rw [List.length_set]; exact hl.2.1)).setOwn (.inr rfl) n2 h3 r3 (apart_of S2 p3 n1).set.set (by rw [List.length_set, List.length_set]; exact hl.2.2)) ((x1.trans x2).trans x3) (by rw [List.length_set, List.length_set, List.length_set])⟩
    · cases e
  · cases e
end
end
end DL
set_option maxRecDepth 100000
set_option maxHeartbeats 1000000
namespace DL
open PySem PySem.Spec PyProof.Rows L2
/-! ### comparisons as tests -/
theorem test_read {W : Wd} {E : XK} {f : EF} {σ : L2.St} {H : Hp} {Q : Bool → Hp → Prop} (q : tT W E (tOf f) σ H Q) : tTest (tD W E f) σ H Q := by
  obtain ⟨O, C, fr, res, fr', S, e, k, ke⟩ := q
  refine tD_bnd S e ke fun x fr1 v H1 e S1 x1 p1 ok1 ke => ?_
  split at e
  · rename_i b
    cases e
    exact ⟨b, by simpa only [RvOk, Rp] using ok1, k _ rfl H1 S1 x1 p1⟩
  · cases e
section
variable {X : Cx} {E : XK} {a b c : Expr} {op op' : CmpOp} {r r' : R2} {g g' : g2} {fa fb fc : EF} {pos : Pos}
theorem ptd_cmp (ho : OpR X (compareOp op) r) (hg : OpD (wd X) r g) (ha : PD X E a fa) (hb : PD X E b fb) (hm : behindInMarks op b = false) : PDT X E (.Compare a [op] [b] pos) (tOf (eBin g fa fb)) := by
  refine PT_imp (pt_cmpR ho ha hb hm) fun σ H Q q => ?_
  obtain ⟨O, C, fr, res, fr', S, e, k, ke⟩ := test_read q
  refine tD_bnd S e ke fun x fr1 v H1 e S1 x1 p1 ok1 ke => tD_bnd S1 e ke fun y fr2 u H2 e S2 x2 p2 ok2 ke => ?_
  exact bin_last hg S2 e (x1.trans x2) (p1.trans p2) (ok1.go x2 p2) ok2 k
theorem chain_read {W : Wd} (hg : OpD W r g) (hg' : OpD W r' g') {σ : L2.St} {H : Hp} {Q : VK} (q : tD W E (eChain g g' fa fb fc) σ H Q) : tChain r r' (tD W E fa) (tD W E fb) (tD W E fc) σ H Q := by
  obtain ⟨O, C, fr, res, fr', S, e, k, ke⟩ := q
  refine tD_bnd S e ke fun x fr1 v H1 e S1 x1 p1 ok1 ke => ?_
  refine tD_bnd S1 e ke fun y fr2 u H2 e S2 x2 p2 ok2 ke => ?_
  cases q1 : snap fr2 x with
  | none => rw [q1] at e; cases e
  | some d =>
    cases q2 : snap fr2 y with
    | none => rw [q1, q2] at e; cases e
    | some d2 =>
      simp only [q1, q2] at e
      cases q3 : g d d2 with
      | none => simp only [q3] at e; cases e
      | some w0 =>
        simp only [q3] at e
        refine hg O H2 d d2 _ v u _ S2.trk (snap_ok S2 (ok1.go x2 p2) q1) (snap_ok S2 ok2 q2) q3 fun w H' kk hw => ?_
        cases w0 with
        | bl c =>
          refine ⟨c, by simpa only [Rp] using hw, ?_⟩
          cases c with
          | true =>
            rw [if_pos rfl]
            have e3 : Ext O H2 O H' := Ext.same kk
            refine tD_bnd (S2.more kk) e (ke.go e3) fun z fr3 t H3 e S3 x3 p3 ok3 ke => ?_
            exact bin_last hg' S3 e (((x1.trans x2).trans e3).trans x3) ((p1.trans p2).trans p3) ((ok2.go e3 .refl).go x3 p3) ok3 k
          | false =>
            rw [if_neg Bool.false_ne_true]
            cases e
            exact k _ rfl _ H' (S2.more kk) ((x1.trans x2).trans (Ext.same kk)) (p1.trans p2) (by simp only [RvOk, Rp])
        | _ => cases e
theorem ptd_chain (ho : OpR X (compareOp op) r) (hg : OpD (wd X) r g) (ho' : OpR X (compareOp op') r') (hg' : OpD (wd X) r' g') (ha : PD X E a fa) (hb : PD X E b fb) (hc : PD X E c fc) (hm : lastMarks [op, op'] [b, c] = false := by with_unfolding_all rfl) : PDT X E (.Compare a [op, op'] [b, c] pos) (tOf (eChain g g' fa fb fc)) :=
  PT_imp (pt_chain ho ho' ha hb hc hm) fun σ H Q q => chain_read hg hg' (test_read q)
end
/-- a built-in type by its name -/
theorem pd_ty {X : Cx} {E : XK} {x : Str} {n : String} {pos : Pos} (hg : Gl X x) (hm : X.mg x = none) (hv : bootBuiltins x = some (.type n)) (hn : x ≠ "__name__" := by decide) (hd : (x == ("__debug__" : Str)) = false := by decide) : PD X E (.Name x pos) (eC (.ty n)) :=
  pd_C (v := .ty n) (pe_bltn hg hm hv rfl hn hd) fun O H => by simp only [Rp]
/-! ### repr of lists and tuples -/
def fRepr : gA
  | [d] => match d with
    | .lst xs => (DV.py (.lst xs)).bind fun p => if p.showable = true ∧ p.hasDict = false ∧ p.depth ≤ 100 ∧ p.shown.length ≤ LIM then some (.str p.shown) else none
    | .tup xs => (DV.py (.tup xs)).bind fun p => if p.showable = true ∧ p.hasDict = false ∧ p.depth ≤ 100 ∧ p.shown.length ≤ LIM then some (.str p.shown) else none
    | .bl b => some (.str (if b then "True" else "False"))
    | _ => none
  | _ => none
def rReprL (K : PySem.W.Frag) : List V → Hp → VK → Prop := fun xs H Q => ∃ a p, xs = [.ref a] ∧ Dp K H (.ref a) p ∧ p.showable = true ∧ p.hasDict = false ∧ p.depth ≤ 100 ∧ p.shown.length ≤ sizeLine ∧ Q (.str p.shown) H
def rReprB : List V → Hp → VK → Prop := fun xs H Q => ∃ b, xs = [.bl b] ∧ Q (.str (if b then "True" else "False")) H
def rRepr (K : PySem.W.Frag) : List V → Hp → VK → Prop := fun xs H Q => rReprL K xs H Q ∨ rReprB xs H Q
section
variable {X : Cx}
theorem call_repr_bl : CallR X (.builtin "repr") rReprB := by
  intro pins s σ H xs us Q I r h
  obtain ⟨b, e1, q⟩ := h
  subst e1
  obtain ⟨u, e2, ru⟩ := vals1 r
  subst e2
  cases (show u = Value.bool b from ru)
  exact PySem.P.repr_of_bool ⟨.str _, H, I.tok _, ⟨_, rfl⟩, q⟩
theorem cr_repr (hgd : X.A.guards = some []) (hu : X.A.units + 101 < cLine) : CallR X (.builtin "repr") (rRepr X.K) := by
  intro pins s σ H xs us Q I r h
  rcases h with h | h
  case inr => exact call_repr_bl pins s σ H xs us Q I r h
  obtain ⟨a, p, e1, dp, hs, hd, hdp, hsz, q⟩ := h
  subst e1
  obtain ⟨u, e2, ru⟩ := vals1 r
  subst e2
  obtain ⟨as, rd⟩ := Dp.reads I p _ _ dp ru
  cases ru
  refine repr_of_reads' rd hs (fun z => by rw [hd] at z; cases z) hgd (by omega) (fun b o e => e) (fun h' u tk hk => ?_) hsz
  exact ⟨.str p.shown, H, (I.kept hk : Inv X pins σ H { s with heap := h', toks := tk }), ⟨u, rfl⟩, q⟩
theorem cd_repr : CalD (wd X) (rRepr X.K) fRepr := by
  intro O H xs z vs Q hO l h e k
  unfold fRepr at e
  split at e
  · rename_i d
    obtain ⟨v, ev, hx⟩ := one_of l h
    subst ev
    split at e
    · rename_i ys
      cases q : DV.py (.lst ys) with
      | none => rw [q] at e; cases e
      | some p =>
        rw [q] at e
        simp only [Option.bind_some] at e
        split at e
        · rename_i hc
          cases e
          have dp := hx.dp q
          obtain ⟨a, us, e1, _⟩ := hx.lst
          subst e1
          exact .inl ⟨a, p, rfl, dp, hc.1, hc.2.1, hc.2.2.1, lim_le hc.2.2.2, Want.str k⟩
        · cases e
    · rename_i ys
      cases q : DV.py (.tup ys) with
      | none => rw [q] at e; cases e
      | some p =>
        rw [q] at e
        simp only [Option.bind_some] at e
        split at e
        · rename_i hc
          cases e
          have dp := hx.dp q
          obtain ⟨a, us, e1, _⟩ := hx.tup
          subst e1
          exact .inl ⟨a, p, rfl, dp, hc.1, hc.2.1, hc.2.2.1, lim_le hc.2.2.2, Want.str k⟩
        · cases e
    · rename_i b
      cases e
      rw [hx.bl]
      exact .inr ⟨b, rfl, Want.str k⟩
    · cases e
  · cases e
/-- {} -/
theorem pd_dct {E : XK} {pos : Pos} : PD X E (.Dict [] [] pos) (eC .dct) := by
  refine PE_imp pe_dnewK fun σ H Q h => ?_
  obtain ⟨O, C, fr, res, fr', S, e, k, ke⟩ := h
  cases e
  intro p hp
  exact k _ rfl _ _ (S.more (keep_new hp)) (Ext.upd hp) .refl (by simp only [RvOk, Rp]; exact ⟨p, rfl, S.fresh hp, upd_same⟩)
/-! ### a.bit_length() -/
def eBits (f : EF) : EF := M.bnd f fun r => match r with
  | .d (.int i) => M.ret (.d (.int (Builtin.Int.intBits i : Nat)))
  | _ => M.stk
theorem pd_bits {E : XK} {o : Expr} {f : EF} {apos pos : Pos} (ho : PD X E o f) (hbase : attributeBase o "bit_length" X.env (eval o X.env) = eval o X.env := by rfl) (hline : (apos.endLine == pos.line) = true := by rfl) : PD X E (.Call (.Attribute o "bit_length" apos) [] [] pos) (eBits f) := by
  refine PE_imp (pe_bits ho hbase hline) fun σ H Q h => ?_
  obtain ⟨O, C, fr, res, fr', S, e, k, ke⟩ := h
  refine tD_bnd S e ke fun x fr1 v H1 e S1 x1 p1 ok1 ke => ?_
  split at e
  · rename_i i
    cases e
    simp only [RvOk, Rp] at ok1
    exact ⟨i, ok1, k _ rfl _ H1 S1 x1 p1 (by simp only [RvOk, Rp])⟩
  · cases e
end
/-! ### constants that are tuples -/
theorem cst_sq {W : Wd} {x : Str} {ds : List DV} {a : Addr} {vs : List V} (hm : W.mg x = some (.ref a)) (h : SqT W.K (fun _ => none) a vs) (r : ∀ O H, Rps W O H ds vs) : Cst W x (.tup ds) :=
  ⟨.ref a, .ref a, hm, rfl, fun O H => by simp only [Rp]; exact ⟨a, vs, rfl, .inr h, r O H⟩⟩
theorem cst_str {W : Wd} {x : Str} {i : Str} {t : Tok} (hm : W.mg x = some (.str i t)) : Cst W x (.str i) := ⟨_, .str i, hm, ⟨t, rfl⟩, fun O H => by simp only [Rp]⟩
theorem cst_int {W : Wd} {x : Str} {i : Int} {t : Tok} (hm : W.mg x = some (.int i t)) : Cst W x (.int i) := ⟨_, .int i, hm, ⟨t, rfl⟩, fun O H => by simp only [Rp]⟩

/-! ### a call whose result is a new list of numbers -/
def atomD : DV → Bool
  | .non | .bl _ | .int _ | .str _ => true
  | _ => false
def flatD : DV → Bool
  | .scr xs => xs.all atomD
  | d => atomD d
def bigO (H : Hp) (a : Addr) : Prop := ∃ o, H a = some o ∧ ∀ q l, o ≠ .frz q l
theorem atom_rp {W : Wd} {O O' : Addr → Prop} {H H' : Hp} {d : DV} {v : V} (e : atomD d = true) (h : Rp W O H d v) : Rp W O' H' d v := by
  cases d <;> simp only [atomD, Bool.false_eq_true] at e <;> simpa only [Rp] using h
theorem atoms_rp {W : Wd} {O O' : Addr → Prop} {H H' : Hp} : ∀ {ds : List DV} {vs : List V}, ds.all atomD = true → Rps W O H ds vs → Rps W O' H' ds vs
  | [], vs, e, h => by simpa only [Rps] using h
  | d :: ds, vs, e, h => by
    simp only [List.all_cons, Bool.and_eq_true] at e
    simp only [Rps] at h ⊢
    obtain ⟨v, ws, h1, h2, h3⟩ := h
    exact ⟨v, ws, h1, atom_rp e.1 h2, atoms_rp e.2 h3⟩
theorem flat_rp {W : Wd} {O : Addr → Prop} {H : Hp} {d : DV} {v : V} (e : flatD d = true) (h : Rp W O H d v) : Rp W (bigO H) H d v := by
  cases d <;> try (exact atom_rp e h)
  rename_i xs
  simp only [Rp] at h ⊢
  obtain ⟨a, vs, h1, h2, h3⟩ := h
  refine ⟨a, vs, h1, ?_, atoms_rp e h3⟩
  rcases h2 with ⟨h2, o, h4⟩ | h2
  · exact .inl ⟨fun z => by obtain ⟨o2, z1, z2⟩ := z; rw [h4] at z1; cases z1; exact z2 _ _ rfl, o, h4⟩
  · exact .inr h2
theorem flats_arg {W : Wd} {O : Addr → Prop} {H : Hp} : ∀ {ds : List DV} {vs : List V}, ds.all flatD = true → Rps W O H ds vs → ArgOk W (bigO H) H (ds.map SV.d) vs ∧ lent (ds.map SV.d) vs = []
  | [], vs, e, h => by
    simp only [Rps] at h
    subst h
    exact ⟨rfl, rfl⟩
  | d :: ds, vs, e, h => by
    simp only [List.all_cons, Bool.and_eq_true] at e
    simp only [Rps] at h
    obtain ⟨v, ws, h1, h2, h3⟩ := h
    subst h1
    obtain ⟨k1, k2⟩ := flats_arg e.2 h3
    exact ⟨⟨v, ws, rfl, flat_rp e.1 h2, k1⟩, k2⟩
theorem Sim.newAt {W : Wd} {O : Addr → Prop} {C : Ct} {σ : L2.St} {fr : Frm} {H H' : Hp} {p : Addr} (S : Sim W O C σ fr H) (k : ∀ b o, H b = some o → H' b = some o) (hp : H p = none) (hp' : H' p ≠ none) : Sim W (fun a => O a ∨ a = p) C σ fr H' ∧ Ext O H (fun a => O a ∨ a = p) H' := by
  have e : Ext O H (fun a => O a ∨ a = p) H' := ⟨fun _ h => .inl h, fun a h => h.elim .inl fun z => .inr (by rw [z]; exact hp), fun b x _ h => k b x h⟩
  refine ⟨⟨fun i x h => ?_, fun i l xs h => ?_, S.inj, fun a h => ?_, fun b x n h => k b x (S.keep b x n h), S.len, fun a h => .inl (S.sub0 a h), S.trk0, fun a h => .inl (S.subB a h)⟩, e⟩
  · obtain ⟨v, h1, h2⟩ := S.dat i x h
    exact ⟨v, h1, Rp.ext e x v h2⟩
  · obtain ⟨a, vs, h1, h2, h3, h4, h5⟩ := S.own i l xs h
    exact ⟨a, vs, h1, .inl h2, k _ _ h3, Rps.ext e xs vs h4, h5⟩
  · rcases h with h | h
    · cases q : H a with
      | none => exact absurd q (S.trk a h)
      | some x => rw [k a x q]; exact fun z => by cases z
    · rw [h]; exact hp'
def lFn (m : Mir) (f : AF) : LF := M.bnd f fun rs => fun fr => match datas rs with
  | some ds => if ds.all flatD = true then (match m (ds.map SV.d) with
    | some (.ok (.lst ys), os) => if ys.all atomD = true then some (.ok ys, fr) else none
    | _ => none) else none
  | none => none
/-- f(a new list) -/
def eFnL (m : Mir) (f : LF) : EF := M.bnd f fun ds => fun fr => match m [.own true ds] with
  | some (.ok d, _) => some (.ok (.d d), fr)
  | some (.ex e, _) => some (.ex e, fr)
  | none => none
section
variable {X : Cx} {E : XK} {x : Str} {k : Nat} {m : Mir} {p pos : Pos}
theorem pl_call {e : Expr} {es : List Expr} {f : AF} (D : DefG X.prog X.w X.K X.mg X.base k x m) (hgd : X.A.guards = some []) (hr : Room k X.A) (hg : Gl X x) (hx : Passes (L2.CX X.prog X.w) X E) (ha : PDA X E (e :: es) f)
    (hdb : (x == ("__debug__" : Str)) = false := by decide) (he : starEach (e :: es) X.env = (false, eval e X.env) :: starEach es X.env := by rfl) (hpl : (backTo pos (starEach es X.env)).any (·.1) = false := by rfl) : PDL X E (.Call (.Name x p) (e :: es) [] pos) (lFn m f) := by
  obtain ⟨fa, fd, ps, F, hm, hk, hb⟩ := D.ex
  refine ⟨fun pins s σ H Q I q => ?_⟩
  obtain ⟨O, C, fr, res, fr', S, eq, k, ke⟩ := q
  have q : tA (wd X) E f σ H fun vs H1 => spD (wd X) m vs H1 Q E := tA_bnd S eq ke fun rs fr1 vs H1 e S1 x1 p1 ok1 ke => by
    cases q1 : datas rs with
    | none => simp only [q1] at e; cases e
    | some ds =>
      simp only [q1] at e
      split at e
      case isFalse => cases e
      rename_i hfl
      obtain ⟨a1, a2⟩ := flats_arg hfl (datas_ok q1 ok1)
      split at e
      case h_2 => cases e
      rename_i ys os hmm
      split at e
      case isFalse => cases e
      rename_i hat
      cases e
      refine ⟨bigO H1, ds.map SV.d, _, os, hmm, a1, by rw [a2]; exact .nil, fun a z => by obtain ⟨o, z1, _⟩ := z; rw [z1]; exact (fun q => (by cases q)), fun r hr v H' hk ho hv => ?_, fun y hy => (by cases hy)⟩
      cases hr
      simp only [Rp] at hv
      obtain ⟨a, us, h1, ⟨h2, h3⟩, h4⟩ := hv
      subst h1
      have kk : ∀ b o, H1 b = some o → H' b = some o := fun b o hb => hk b o (by rw [a2]; exact fun z => by cases z) hb
      have hn : H1 a = none := by
        cases q : H1 a with
        | none => rfl
        | some o =>
          refine absurd ⟨o, q, fun z l e => ?_⟩ h2
          subst e
          rw [kk a _ q] at h3; cases h3
      obtain ⟨S2, x2⟩ := S1.newAt kk hn (by rw [h3]; exact fun q => by cases q)
      exact k ys rfl a us H' S2 (x1.trans x2) p1 (S1.fresh hn) (S1.unborn hn) h3 (atoms_rp hat h4)
  refine wpAny_Call_Name_kw (ld_glob I hg hm ?_ hdb)
  refine PySem.W.callWith_K (h₀ := X.base) I.ok.mod.kin hk (thn (ha.run pos pins s σ H _ I q) fun us s1 ⟨vs, H1, I1, r, q⟩ => ⟨I1.kIn, ?_⟩) he hpl
  exact go_fn (args := ⟨us, []⟩) F hgd hr (bind_at hb I1.kIn (by rw [← r.length]; exact F.len _ _ _ _ q)) hx I1 r q
theorem pd_callL {e : Expr} {f : LF} (D : DefG X.prog X.w X.K X.mg X.base k x m) (hgd : X.A.guards = some []) (hr : Room k X.A) (hg : Gl X x) (hx : Passes (L2.CX X.prog X.w) X E) (ha : PDL X E e f)
    (hdb : (x == ("__debug__" : Str)) = false := by decide) (he : starEach [e] X.env = (false, eval e X.env) :: starEach [] X.env := by rfl) (hpl : (backTo pos (starEach [] X.env)).any (·.1) = false := by rfl) : PD X E (.Call (.Name x p) [e] [] pos) (eFnL m f) := by
  obtain ⟨fa, fd, ps, F, hm, hk, hb⟩ := D.ex
  refine ⟨fun pins s σ H Q I q => ?_⟩
  obtain ⟨O, C, fr, res, fr', S, eq, k, ke⟩ := q
  have q : tL (wd X) E f σ H fun v H1 => spD (wd X) m [v] H1 Q E := tL_bnd S eq ke fun ds fr1 p vs H1 e S1 x1 p1 n1 n2 h1 r1 => by
    have hap := apart_of S p1 n1
    have a1 : ArgOk (wd X) (fun a => O a ∨ a = p) H1 [.own true ds] [.ref p] := ⟨p, vs, [], rfl, .inr rfl, h1, r1, rfl⟩
    have after : ∀ (H' : Hp) (os : List (List DV)), (∀ b o, b ∉ lent [SV.own true ds] [V.ref p] → H1 b = some o → H' b = some o) → OutOk (wd X) (fun a => O a ∨ a = p) H' [.own true ds] [.ref p] os → Sim (wd X) O C σ fr1 H' ∧ Ext O H O H' := fun H' os hk ho => by
      have kk : ∀ b o, b ≠ p → H1 b = some o → H' b = some o := fun b o hb => hk b o (by simpa [lent] using hb)
      have hp' : H' p ≠ none := by
        obtain ⟨us, z⟩ := out_mem (a := p) a1 ho (by simp [lent])
        rw [z]; exact fun q => by cases q
      have xt : Ext (fun a => O a ∨ a = p) H1 (fun a => O a ∨ a = p) H' := ⟨fun _ h => h, fun _ h => .inl h, fun b o n h => kk b o (fun z => n (.inr z)) h⟩
      have S2 : Sim (wd X) (fun a => O a ∨ a = p) C σ fr1 H' := by
        refine ⟨fun i x h => ?_, fun i l xs h => ?_, S1.inj, fun a h => ?_, fun b o n h => kk b o (fun z => by rw [z, n2] at h; cases h) (S1.keep b o n h), S1.len, S1.sub0, S1.trk0, S1.subB⟩
        · obtain ⟨v, h1, h2⟩ := S1.dat i x h
          exact ⟨v, h1, Rp.ext xt x v h2⟩
        · obtain ⟨a, us, q1, q2, q3, q4, q5⟩ := S1.own i l xs h
          exact ⟨a, us, q1, q2, kk a _ (fun z => hap i l xs h (by rw [q1, z])) q3, Rps.ext xt xs us q4, q5⟩
        · by_cases z : a = p
          · rw [z]; exact hp'
          · cases q : H1 a with
            | none => exact absurd q (S1.trk a h)
            | some o => rw [kk a o z q]; exact fun q => by cases q
      refine ⟨S2.less S.sub0 S.subB hap, ⟨fun _ h => h, fun _ h => .inl h, fun b o n h => ?_⟩⟩
      have hb : b ≠ p := fun z => by
        rcases x1.new p (.inr rfl) with w | w
        · exact n1 w
        · rw [z, w] at h; cases h
      exact kk b o hb (x1.fut b o n h)
    have lf : ∀ a, O a → O a ∨ a = p := fun a h => .inl h
    cases q : m [.own true ds] with
    | none => rw [q] at e; cases e
    | some z =>
      obtain ⟨z, os⟩ := z
      rw [q] at e
      refine ⟨_, _, z, os, q, a1, by simp [lent], S1.trk, fun r hr v H' hk ho hv => ?_, fun y hy c d H' hk ho hv => ?_⟩
      · subst hr
        cases e
        obtain ⟨S2, x2⟩ := after H' os hk ho
        exact k _ rfl v H' S2 x2 p1 (Rp.off lf _ _ hv)
      · subst hy
        cases e
        obtain ⟨S2, x2⟩ := after H' os hk ho
        have hv' : ExOk (wd X) C.O0 H' y c d := hv.off (fun a h => lf a (S.sub0 a h))
        exact ke y rfl c d H' S2 x2 hv'
  refine wpAny_Call_Name_kw (ld_glob I hg hm ?_ hdb)
  refine PySem.W.callWith_K (h₀ := X.base) I.ok.mod.kin hk (thn ((pa_cons ha pa_nil he).run pos pins s σ H (fun vs H1 => spD (wd X) m vs H1 Q E) I q) fun us s1 ⟨vs, H1, I1, r, q⟩ => ⟨I1.kIn, ?_⟩) he hpl
  exact go_fn (args := ⟨us, []⟩) F hgd hr (bind_at hb I1.kIn (by rw [← r.length]; exact F.len _ _ _ _ q)) hx I1 r q
end
end DL
set_option maxRecDepth 100000
set_option maxHeartbeats 1000000
namespace DL
open PySem PySem.Spec PyProof.Rows L2
/-! ### what the head tells -/
/-- the module's name x is the built-in id -/
def biB (K : PySem.W.Frag) (x : Str) (id : String) : Bool := He.eqO (PySem.W.nsIn K mainGlobals x) (some (some (.builtin id)))
theorem bi_ok {K : PySem.W.Frag} {h : Heap} {mg : Str → Option Value} {x : Str} {id : String} (X : K.In h) (G : h.Ns mainGlobals mg) (c : biB K x id = true) : mg x = some (.builtin id) := PySem.W.mg_of X G (He.eqO_ok c)
abbrev AlE : Type := He.AlD × Bool
def obsE (n : Nat) (fa : List He.Fa) (fn : List He.DefD) (ex : PySem.W.Frag → Bool) (g : Addr → Option Obj) : AlE := (He.obsDG n fa fn g, ex (He.frG g (He.asD g n)))
def hookE (n : Nat) (fa : List He.Fa) (fn : List He.DefD) (ex : PySem.W.Frag → Bool) : PySem.W.Hook where
  α := AlE
  obs := fun s => obsE n fa fn ex s.heap.get?
  val := fun _ => (He.valD fn, true)
  says := fun _ h => ∃ K : PySem.W.Frag, K.In h ∧ He.SaysD fa fn K ∧ ex K = true
  of := fun _ _ e => ⟨_, He.frG_in, congrArg Prod.fst e, congrArg Prod.snd e⟩
  keeps := fun _ _ _ z k => z.elim fun K z => ⟨K, PySem.W.Frag.In.keeps z.1 k, z.2⟩
theorem obsE_eq {n : Nat} {fa : List He.Fa} {fn : List He.DefD} {ex : PySem.W.Frag → Bool} {g : Addr → Option Obj} {s : Shared} (h : ∀ a, g a = s.heap.get? a) : obsE n fa fn ex g = (hookE n fa fn ex).obs s :=
  congrArg (obsE n fa fn ex) (funext h)
/-! ### the end -/
section
variable {P : Program} {w : World} {K : PySem.W.Frag} {mg mb : Str → Option Value} {k : Nat} {fa a : Addr} {fd : FuncData} {x : Str} {sp : Sp} {s₁ : Shared} {vs : List Value} {ns : List Int} {H : Hp}
/-- the law's call from a heap that knows at most the script -/
theorem go_at {mc : Str → Option Value} (KX : K.In s₁.heap) (hns : s₁.heap.Ns mainGlobals mg) (hbn : s₁.heap.Ns builtinsNs mb) (hbb : ∀ x : Str, x ≠ "__name__" → mb x = bootBuiltins x) (hlim : s₁.heap.NoLimit) (hg : s₁.gens = #[]) (ha : s₁.heap.get? a = some { cls := .type "list", data := .seq vs.toArray }) (hr : Room k callerA)
    (F : ∀ base : Heap, K.In base → base.Ns mainGlobals mg → FnG P w K mg base (L2.CX P w) k fa fd [x] sp) (hbind : ∀ (s : Shared) (u : Value), BindsTo s fd ⟨[u], []⟩ [(x, u)]) (hO : Only H) (hok : HOk P w H s₁.heap) (hA : ∀ b, H b ≠ none → b = a ∧ K.lookup a = none)
    (hsp : sp [.ref a] H (fun v _ => v = .bl true) fun _ _ _ => False) : codeAny (model P w) callerA (.call (.ref fa) ⟨[.ref a], []⟩) (fun r s' => r = .ok (.ret (.bool true)) ∧ OldK s₁.heap s'.heap ∧ s'.os = s₁.os ∧ AllBare s'.gens) s₁ := by
  have away : ∀ {b : Addr} {o : Obj}, s₁.heap.get? b = some o → (b = a → K.lookup a ≠ none ∨ ∃ es ep, o.data = .dict es ep) → H b = none := fun {b o} e hx => by
    cases q : H b with
    | none => rfl
    | some u =>
      obtain ⟨e1, e2⟩ := hA b (by rw [q]; exact fun z => by cases z)
      subst e1
      rcases hx rfl with z | ⟨es, ep, z⟩
      · exact absurd e2 z
      · rw [ha] at e; cases e; cases z
  have kp : ∀ {b : Addr} {o : Obj}, s₁.heap.get? b = some o → (b = a → K.lookup a ≠ none ∨ ∃ es ep, o.data = .dict es ep) → (hidT s₁.heap H).get? b = some o := fun e hx => hidT_get e (away e hx)
  have nsH : ∀ {b : Addr} {m : Str → Option Value}, s₁.heap.Ns b m → (hidT s₁.heap H).Ns b m := fun {b m} z => by
    obtain ⟨o, es, ep, e, d, r⟩ := z
    exact ⟨o, es, ep, kp e (fun _ => .inr ⟨es, ep, d⟩), d, r⟩
  have kin : K.In (hidT s₁.heap H) := fun b o e => kp (KX b o e) (fun z => .inl (by rw [← z, e]; exact fun q => by cases q))
  obtain ⟨ml, l1, l2⟩ := hlim
  have md : Mod K mg (hidT s₁.heap H) := ⟨kin, nsH hns, ⟨mb, nsH hbn, hbb⟩, ⟨ml, nsH l1, l2⟩⟩
  have ev : Env0 P w K mg (hidT s₁.heap H) callerA [] s₁ H := ⟨rfl, md, fun b o z => of_hidT z, Nat.le_of_eq (hidT_size _ _), trivial, fun b z => (by cases z), hok, .of_eq hg⟩
  refine codeAny_mono ((F _ kin (nsH hns)).go callerA [] s₁ H ⟨[.ref a], []⟩ [.ref a] [.ref a] _ _ hr rfl ev (hbind s₁ (.ref a)) (.cons rfl .nil) hsp) fun out s' z => ?_
  cases out with
  | error e =>
    obtain ⟨_, _, _, _, _, _, _, _, _, _, _, _, no⟩ := z
    exact no.elim
  | ok fl =>
    cases fl with
    | ret u =>
      obtain ⟨v, H', q1, q2, un, hok', rv, q3⟩ := z
      subst q3
      cases (show u = Value.bool true from rv)
      refine ⟨rfl, OldK.of_keep fun b o e => ?_, q1, q2⟩
      rcases hO b with q | ⟨ob, xs, q⟩
      · exact un.keep b o e q (fun y => by cases y) (fun y => by cases y)
      · have g1 := (hok b _ q).1
        have g2 := (hok' b _ (un.frzs b ob _ q)).1
        rw [g1] at e
        rw [g2, ← e]
    | next => exact z.elim
    | brk => exact z.elim
    | cont => exact z.elim
/-- THE HEAD of a law whose def answers as its mirror says -/
theorem go_law (KX : K.In s₁.heap) (hns : s₁.heap.Ns mainGlobals mg) (hbn : s₁.heap.Ns builtinsNs mb) (hbb : ∀ x : Str, x ≠ "__name__" → mb x = bootBuiltins x) (hlim : s₁.heap.NoLimit) (hg : s₁.gens = #[]) (ha : s₁.heap.get? a = some { cls := .type "list", data := .seq vs.toArray })
    (hi : IntsAre vs ns) (hl : ns.length ≤ sizeLine) (hr : Room k callerA) (F : ∀ base : Heap, K.In base → base.Ns mainGlobals mg → FnG P w K mg base (L2.CX P w) k fa fd [x] sp) (hbind : ∀ (s : Shared) (u : Value), BindsTo s fd ⟨[u], []⟩ [(x, u)])
    (hsp : ∀ H : Hp, Only H → SqL K H a (ns.map V.int) → sp [.ref a] H (fun v _ => v = .bl true) fun _ _ _ => False) :
    codeAny (model P w) callerA (.call (.ref fa) ⟨[.ref a], []⟩) (fun r s' => r = .ok (.ret (.bool true)) ∧ OldK s₁.heap s'.heap ∧ s'.os = s₁.os ∧ AllBare s'.gens) s₁ := by
  have rv := vals_ints hi
  have ll := hi.length
  cases q : K.lookup a with
  | some o =>
    have e := KX a o q
    rw [ha] at e
    cases e
    have O0 : Only fun _ => none := fun _ => .inl rfl
    refine go_at (H := fun _ => none) (mc := mg) KX hns hbn hbb hlim hg ha hr F hbind O0 (fun b u z => by cases z) (fun b z => absurd rfl z) (hsp _ O0 (.inr ⟨_, vs.toArray, _, q, rfl, rfl, rfl, ?_, by simpa using rv⟩))
    rw [List.size_toArray, ll]
    exact hl
  | none =>
    let Hs : Hp := fun b => if b = a then some (.frz { cls := .type "list", data := .seq vs.toArray } (.lst (ns.map V.int))) else none
    have at_ : Hs a = some (.frz { cls := .type "list", data := .seq vs.toArray } (.lst (ns.map V.int))) := if_pos rfl
    have off : ∀ b, b ≠ a → Hs b = none := fun b n => if_neg n
    have O1 : Only Hs := fun b => (Decidable.em (b = a)).elim (fun e => .inr (by subst e; exact ⟨_, _, at_⟩)) fun e => .inl (off b e)
    refine go_at (H := Hs) (mc := mg) KX hns hbn hbb hlim hg ha hr F hbind O1 (fun b u z => ?_) (fun b z => ⟨Decidable.byContradiction fun e => z (off b e), q⟩) (hsp _ O1 (.inl (.inr ⟨_, at_⟩)))
    by_cases e : b = a
    · subst e
      rw [at_] at z
      cases z
      exact ⟨ha, by rw [List.length_map]; exact hl, vs, _, rv, ha⟩
    · rw [off b e] at z; cases z
end
/-- the walk that head_any wants -/
theorem walkG {l : PySem.W.OpenLaw} {n k : Nat} {q : Program} {loose : List Str} {XP : (Str → Option Value) → Heap → Prop} {YP : World → Heap → Prop} {d : DefRec} {x : Str} (hn : l.most = some n) (hn2 : n ≤ sizeLine) (hdf : d.params.defaults = []) (hr : Room k callerA)
    (F : ∀ (w : World) (mg : Str → Option Value) (fa : Addr) (h : Heap), YP w h → h.Ns mainGlobals mg → mg d.name = some (.ref fa) → ∃ (K : PySem.W.Frag) (fd : FuncData) (m : Mir), K.In h ∧ (∀ (s : Shared) (u : Value), BindsTo s fd ⟨[u], []⟩ [(x, u)]) ∧
      (∀ ns : List Int, ns.length ≤ n → (∀ i ∈ ns, Builtin.Int.intBits i ≤ 1048576) → m [.d (.scr (ns.map DV.int))] = some (.ok (.bl true), [])) ∧ ∀ base : Heap, K.In base → base.Ns mainGlobals mg → FnG l.prog w K mg base (L2.CX l.prog w) k fa fd [x] (spD ⟨K, mg⟩ m)) : PySem.W.WalkO q loose XP YP l.row.toRowW d [] (fun f vs => PySem.call f vs) := by
  refine Att.attach_callB hn hdf fun w s₀ s₁ mg mb fa o pm cd doc a vs ns G Y ho hd hcd hmg hobj hints hlen hbits hg => ?_
  obtain ⟨K, fd, m, KX, hb, hm, hF⟩ := F w mg fa _ Y G.T.g hmg
  refine go_law KX G.T.g G.T.b G.T.builtins G.T.nolimit hg hobj hints (Nat.le_trans hlen hn2) hr hF hb fun H hO hS => ?_
  have rr : ∀ js : List Int, Rps ⟨K, mg⟩ (fun _ => False) H (js.map DV.int) (js.map V.int) := fun js => by
    induction js with
    | nil => simp only [List.map, Rps]
    | cons j js ih => exact Rps.cons (by simp only [Rp]) ih
  refine ⟨fun _ => False, [.d (.scr (ns.map DV.int))], _, [], hm ns hlen hbits, ⟨.ref a, [], rfl, ?_, rfl⟩, by simp [lent], fun b z => z.elim, fun r hr v H' _ _ hv => ?_, fun e he => by cases he⟩
  · simp only [Rp]
    refine ⟨a, ns.map V.int, rfl, ?_, rr ns⟩
    rcases hS with (z | ⟨ob, z⟩) | z
    · rcases hO a with y | ⟨o2, xs, y⟩ <;> rw [y] at z <;> cases z
    · exact .inl ⟨fun y => y, ob, z⟩
    · exact .inr (.inr z)
  · cases hr
    simpa only [Rp] using hv
end DL
set_option maxRecDepth 100000
set_option maxHeartbeats 0
/-! ### the text of L50 -/
namespace L50
open PySem PySem.Spec PyProof.Rows L2 DL
def tp (i : Nat) : Stmt := PySem.Challenge.pw_straightroots_k50_whole_makings_of_anyth.main.body.getD i (.Pass ⟨0, 0, 0, 0⟩)
abbrev s_is_whole : Stmt := tp 9
def d_is_whole : He.DefD := ⟨("is_whole", none), "is_whole", "is_whole", defArgs s_is_whole, defBody s_is_whole, defScope s_is_whole, [], []⟩
abbrev s_is_between : Stmt := tp 10
def d_is_between : He.DefD := ⟨("is_between", none), "is_between", "is_between", defArgs s_is_between, defBody s_is_between, defScope s_is_between, [], []⟩
abbrev s_is_tuple_of : Stmt := tp 11
def d_is_tuple_of : He.DefD := ⟨("is_tuple_of", none), "is_tuple_of", "is_tuple_of", defArgs s_is_tuple_of, defBody s_is_tuple_of, defScope s_is_tuple_of, [], []⟩
abbrev s_is_fraction : Stmt := tp 12
def d_is_fraction : He.DefD := ⟨("is_fraction", none), "is_fraction", "is_fraction", defArgs s_is_fraction, defBody s_is_fraction, defScope s_is_fraction, [], []⟩
abbrev s_are_fractions : Stmt := tp 13
def d_are_fractions : He.DefD := ⟨("are_fractions", none), "are_fractions", "are_fractions", defArgs s_are_fractions, defBody s_are_fractions, defScope s_are_fractions, [], []⟩
abbrev s_fraction : Stmt := tp 14
def d_fraction : He.DefD := ⟨("fraction", none), "fraction", "fraction", defArgs s_fraction, defBody s_fraction, defScope s_fraction, [], []⟩
abbrev s_whole : Stmt := tp 15
def d_whole : He.DefD := ⟨("whole", none), "whole", "whole", defArgs s_whole, defBody s_whole, defScope s_whole, [], []⟩
abbrev s_plus : Stmt := tp 16
def d_plus : He.DefD := ⟨("plus", none), "plus", "plus", defArgs s_plus, defBody s_plus, defScope s_plus, [], []⟩
abbrev s_times : Stmt := tp 17
def d_times : He.DefD := ⟨("times", none), "times", "times", defArgs s_times, defBody s_times, defScope s_times, [], []⟩
abbrev s_is_poly_by : Stmt := tp 20
def d_is_poly_by : He.DefD := ⟨("is_poly_by", none), "is_poly_by", "is_poly_by", defArgs s_is_poly_by, defBody s_is_poly_by, defScope s_is_poly_by, [], []⟩
abbrev s_lessened : Stmt := tp 21
def d_lessened : He.DefD := ⟨("lessened", none), "lessened", "lessened", defArgs s_lessened, defBody s_lessened, defScope s_lessened, [], []⟩
abbrev s_padded : Stmt := tp 22
def d_padded : He.DefD := ⟨("padded", none), "padded", "padded", defArgs s_padded, defBody s_padded, defScope s_padded, [], []⟩
abbrev s_scaled : Stmt := tp 23
def d_scaled : He.DefD := ⟨("scaled", none), "scaled", "scaled", defArgs s_scaled, defBody s_scaled, defScope s_scaled, [], []⟩
abbrev s_sum_by : Stmt := tp 24
def d_sum_by : He.DefD := ⟨("sum_by", none), "sum_by", "sum_by", defArgs s_sum_by, defBody s_sum_by, defScope s_sum_by, [], []⟩
abbrev s_rise_of : Stmt := tp 25
def d_rise_of : He.DefD := ⟨("rise_of", none), "rise_of", "rise_of", defArgs s_rise_of, defBody s_rise_of, defScope s_rise_of, [], []⟩
abbrev s_check_poly : Stmt := tp 28
def d_check_poly : He.DefD := ⟨("check_poly", none), "check_poly", "check_poly", defArgs s_check_poly, defBody s_check_poly, defScope s_check_poly, [], []⟩
abbrev s_check_polys : Stmt := tp 29
def d_check_polys : He.DefD := ⟨("check_polys", none), "check_polys", "check_polys", defArgs s_check_polys, defBody s_check_polys, defScope s_check_polys, [], []⟩
abbrev s_check_most : Stmt := tp 30
def d_check_most : He.DefD := ⟨("check_most", none), "check_most", "check_most", defArgs s_check_most, defBody s_check_most, defScope s_check_most, [], []⟩
abbrev s_check_poly_up_to : Stmt := tp 31
def d_check_poly_up_to : He.DefD := ⟨("check_poly_up_to", none), "check_poly_up_to", "check_poly_up_to", defArgs s_check_poly_up_to, defBody s_check_poly_up_to, defScope s_check_poly_up_to, [], []⟩
abbrev s_is_making_by : Stmt := tp 35
def d_is_making_by : He.DefD := ⟨("is_making_by", none), "is_making_by", "is_making_by", defArgs s_is_making_by, defBody s_is_making_by, defScope s_is_making_by, [], []⟩
abbrev s_made_by : Stmt := tp 36
def d_made_by : He.DefD := ⟨("made_by", none), "made_by", "made_by", defArgs s_made_by, defBody s_made_by, defScope s_made_by, [], []⟩
abbrev s_power_poly : Stmt := tp 37
def d_power_poly : He.DefD := ⟨("power_poly", none), "power_poly", "power_poly", defArgs s_power_poly, defBody s_power_poly, defScope s_power_poly, [], []⟩
abbrev s_symbol_by : Stmt := tp 38
def d_symbol_by : He.DefD := ⟨("symbol_by", none), "symbol_by", "symbol_by", defArgs s_symbol_by, defBody s_symbol_by, defScope s_symbol_by, [], []⟩
abbrev s_is_making : Stmt := tp 40
def d_is_making : He.DefD := ⟨("is_making", none), "is_making", "is_making", defArgs s_is_making, defBody s_is_making, defScope s_is_making, [], []⟩
abbrev s_check_making : Stmt := tp 41
def d_check_making : He.DefD := ⟨("check_making", none), "check_making", "check_making", defArgs s_check_making, defBody s_check_making, defScope s_check_making, [], []⟩
abbrev s_made : Stmt := tp 42
def d_made : He.DefD := ⟨("made", none), "made", "made", defArgs s_made, defBody s_made, defScope s_made, [], []⟩
abbrev s_symbol : Stmt := tp 43
def d_symbol : He.DefD := ⟨("symbol", none), "symbol", "symbol", defArgs s_symbol, defBody s_symbol, defScope s_symbol, [], []⟩
abbrev s_poly_sum : Stmt := tp 45
def d_poly_sum : He.DefD := ⟨("poly_sum", none), "poly_sum", "poly_sum", defArgs s_poly_sum, defBody s_poly_sum, defScope s_poly_sum, [], []⟩
abbrev s__law_cask : Stmt := tp 47
def d__law_cask : He.DefD := ⟨("_law_cask", none), "_law_cask", "_law_cask", defArgs s__law_cask, defBody s__law_cask, defScope s__law_cask, [], []⟩
abbrev s__law_tap : Stmt := tp 48
def d__law_tap : He.DefD := ⟨("_law_tap", none), "_law_tap", "_law_tap", defArgs s__law_tap, defBody s__law_tap, defScope s__law_tap, [], []⟩
abbrev s__law_one_from : Stmt := tp 49
def d__law_one_from : He.DefD := ⟨("_law_one_from", none), "_law_one_from", "_law_one_from", defArgs s__law_one_from, defBody s__law_one_from, defScope s__law_one_from, [], []⟩
abbrev s__law_alike : Stmt := tp 50
def d__law_alike : He.DefD := ⟨("_law_alike", none), "_law_alike", "_law_alike", defArgs s__law_alike, defBody s__law_alike, defScope s__law_alike, [], []⟩
abbrev s__law_measure : Stmt := tp 51
def d__law_measure : He.DefD := ⟨("_law_measure", none), "_law_measure", "_law_measure", defArgs s__law_measure, defBody s__law_measure, defScope s__law_measure, [], []⟩
abbrev s__law_frac : Stmt := tp 52
def d__law_frac : He.DefD := ⟨("_law_frac", none), "_law_frac", "_law_frac", defArgs s__law_frac, defBody s__law_frac, defScope s__law_frac, [], []⟩
abbrev s__law_plus : Stmt := tp 53
def d__law_plus : He.DefD := ⟨("_law_plus", none), "_law_plus", "_law_plus", defArgs s__law_plus, defBody s__law_plus, defScope s__law_plus, [], []⟩
abbrev s__law_by : Stmt := tp 54
def d__law_by : He.DefD := ⟨("_law_by", none), "_law_by", "_law_by", defArgs s__law_by, defBody s__law_by, defScope s__law_by, [], []⟩
abbrev s__law_is_fraction : Stmt := tp 55
def d__law_is_fraction : He.DefD := ⟨("_law_is_fraction", none), "_law_is_fraction", "_law_is_fraction", defArgs s__law_is_fraction, defBody s__law_is_fraction, defScope s__law_is_fraction, [], []⟩
abbrev s__law_trimmed : Stmt := tp 56
def d__law_trimmed : He.DefD := ⟨("_law_trimmed", none), "_law_trimmed", "_law_trimmed", defArgs s__law_trimmed, defBody s__law_trimmed, defScope s__law_trimmed, [], []⟩
abbrev s__law_mixed : Stmt := tp 57
def d__law_mixed : He.DefD := ⟨("_law_mixed", none), "_law_mixed", "_law_mixed", defArgs s__law_mixed, defBody s__law_mixed, defScope s__law_mixed, [], []⟩
abbrev s__law_product : Stmt := tp 58
def d__law_product : He.DefD := ⟨("_law_product", none), "_law_product", "_law_product", defArgs s__law_product, defBody s__law_product, defScope s__law_product, [], []⟩
abbrev s__law_rise : Stmt := tp 59
def d__law_rise : He.DefD := ⟨("_law_rise", none), "_law_rise", "_law_rise", defArgs s__law_rise, defBody s__law_rise, defScope s__law_rise, [], []⟩
abbrev s__law_rooted : Stmt := tp 60
def d__law_rooted : He.DefD := ⟨("_law_rooted", none), "_law_rooted", "_law_rooted", defArgs s__law_rooted, defBody s__law_rooted, defScope s__law_rooted, [], []⟩
abbrev s__law_scaled : Stmt := tp 61
def d__law_scaled : He.DefD := ⟨("_law_scaled", none), "_law_scaled", "_law_scaled", defArgs s__law_scaled, defBody s__law_scaled, defScope s__law_scaled, [], []⟩
abbrev s__law_drawn_fraction : Stmt := tp 62
def d__law_drawn_fraction : He.DefD := ⟨("_law_drawn_fraction", none), "_law_drawn_fraction", "_law_drawn_fraction", defArgs s__law_drawn_fraction, defBody s__law_drawn_fraction, defScope s__law_drawn_fraction, [], []⟩
abbrev s__law_drawn_roots : Stmt := tp 63
def d__law_drawn_roots : He.DefD := ⟨("_law_drawn_roots", none), "_law_drawn_roots", "_law_drawn_roots", defArgs s__law_drawn_roots, defBody s__law_drawn_roots, defScope s__law_drawn_roots, [], []⟩
abbrev s__law_bent : Stmt := tp 64
def d__law_bent : He.DefD := ⟨("_law_bent", none), "_law_bent", "_law_bent", defArgs s__law_bent, defBody s__law_bent, defScope s__law_bent, [], []⟩
abbrev s__law_drawn_poly : Stmt := tp 65
def d__law_drawn_poly : He.DefD := ⟨("_law_drawn_poly", none), "_law_drawn_poly", "_law_drawn_poly", defArgs s__law_drawn_poly, defBody s__law_drawn_poly, defScope s__law_drawn_poly, [], []⟩
abbrev s__law_is_making : Stmt := tp 66
def d__law_is_making : He.DefD := ⟨("_law_is_making", none), "_law_is_making", "_law_is_making", defArgs s__law_is_making, defBody s__law_is_making, defScope s__law_is_making, [], []⟩
abbrev s__law_made : Stmt := tp 67
def d__law_made : He.DefD := ⟨("_law_made", none), "_law_made", "_law_made", defArgs s__law_made, defBody s__law_made, defScope s__law_made, [], []⟩
abbrev s__law_drawn_making : Stmt := tp 68
def d__law_drawn_making : He.DefD := ⟨("_law_drawn_making", none), "_law_drawn_making", "_law_drawn_making", defArgs s__law_drawn_making, defBody s__law_drawn_making, defScope s__law_drawn_making, [], []⟩
abbrev s__law_near : Stmt := tp 69
def d__law_near : He.DefD := ⟨("_law_near", none), "_law_near", "_law_near", defArgs s__law_near, defBody s__law_near, defScope s__law_near, [], []⟩
abbrev s__law_right : Stmt := tp 70
def d__law_right : He.DefD := ⟨("_law_right", none), "_law_right", "_law_right", defArgs s__law_right, defBody s__law_right, defScope s__law_right, [], []⟩
abbrev s_law : Stmt := tp 71
def d_law : He.DefD := ⟨("law", none), "law", "law", defArgs s_law, defBody s_law, defScope s_law, [], []⟩
def fn : List He.DefD := [d_is_whole, d_is_between, d_is_tuple_of, d_is_fraction, d_are_fractions, d_fraction, d_whole, d_plus, d_times, d_is_poly_by, d_lessened, d_padded, d_scaled, d_sum_by, d_rise_of, d_check_poly, d_check_polys, d_check_most, d_check_poly_up_to, d_is_making_by, d_made_by, d_power_poly, d_symbol_by, d_is_making, d_check_making, d_made, d_symbol, d_poly_sum, d__law_cask, d__law_tap, d__law_one_from, d__law_alike, d__law_measure, d__law_frac, d__law_plus, d__law_by, d__law_is_fraction, d__law_trimmed, d__law_mixed, d__law_product, d__law_rise, d__law_rooted, d__law_scaled, d__law_drawn_fraction, d__law_drawn_roots, d__law_bent, d__law_drawn_poly, d__law_is_making, d__law_made, d__law_drawn_making, d__law_near, d__law_right, d_law]
def fa : List He.Fa := [.glo "is_whole", .glo "is_between", .glo "is_tuple_of", .glo "is_fraction", .glo "are_fractions", .glo "fraction", .glo "whole", .glo "plus", .glo "times", .glo "is_poly_by", .glo "lessened", .glo "padded", .glo "scaled", .glo "sum_by", .glo "rise_of", .glo "check_poly", .glo "check_polys", .glo "check_most", .glo "check_poly_up_to", .glo "is_making_by", .glo "made_by", .glo "power_poly", .glo "symbol_by", .glo "is_making", .glo "check_making", .glo "made", .glo "symbol", .glo "poly_sum", .glo "_law_cask", .glo "_law_tap", .glo "_law_one_from", .glo "_law_alike", .glo "_law_measure", .glo "_law_frac", .glo "_law_plus", .glo "_law_by", .glo "_law_is_fraction", .glo "_law_trimmed", .glo "_law_mixed", .glo "_law_product", .glo "_law_rise", .glo "_law_rooted", .glo "_law_scaled", .glo "_law_drawn_fraction", .glo "_law_drawn_roots", .glo "_law_bent", .glo "_law_drawn_poly", .glo "_law_is_making", .glo "_law_made", .glo "_law_drawn_making", .glo "_law_near", .glo "_law_right", .glo "law", .glo "NOUGHT", .glo "ONE", .int "MOST_NUMBERS" 13, .int "MOST_DEGREE" 6, .str "TIMES" "times", .str "STEPS" "steps", .free "isinstance", .free "int", .free "bool", .free "tuple", .free "len", .free "all", .free "max", .free "zip", .free "enumerate", .free "str", .free "range", .free "abs", .free "repr", .free "list", .free "min"]
def ex (K : PySem.W.Frag) : Bool := (biB K "comb" "math.comb" && (biB K "gcd" "math.gcd" && (He.tupB K "NOUGHT" [.int 0, .int 1] && (He.tupB K "ONE" [.int 1, .int 1] && true))))
abbrev R : PySem.W.OpenRow := PySem.W.OpenLaw.row PySem.Challenge.rw_straightroots_k50_whole_makings_of_anyth
abbrev hk : PySem.W.Hook := hookE 4 fa fn ex
def ob (s : PySem.W.SharedT) : AlE := obsE 4 fa fn ex (HandSHeadRun.getT s)
theorem ob_eq (s : PySem.W.SharedT) : ob s = hk.obs s.abs := obsE_eq (HandSHeadRun.getT_eq s)
def lo0 : List PySem.Str := [("__name__" : PySem.Str), ("RootError" : PySem.Str), ("NotAPoly" : PySem.Str), ("NotAMaking" : PySem.Str), ("InvalidNumber" : PySem.Str), ("NOUGHT" : PySem.Str), ("ONE" : PySem.Str), ("is_whole" : PySem.Str), ("is_between" : PySem.Str), ("is_tuple_of" : PySem.Str), ("is_fraction" : PySem.Str), ("are_fractions" : PySem.Str), ("fraction" : PySem.Str), ("whole" : PySem.Str), ("plus" : PySem.Str), ("times" : PySem.Str), ("MOST_NUMBERS" : PySem.Str), ("is_poly_by" : PySem.Str), ("lessened" : PySem.Str), ("padded" : PySem.Str)]
def lo1 : List PySem.Str := [("scaled" : PySem.Str), ("sum_by" : PySem.Str), ("rise_of" : PySem.Str), ("MOST_DEGREE" : PySem.Str), ("check_poly" : PySem.Str), ("check_polys" : PySem.Str), ("check_most" : PySem.Str), ("check_poly_up_to" : PySem.Str), ("TIMES" : PySem.Str), ("STEPS" : PySem.Str), ("is_making_by" : PySem.Str), ("made_by" : PySem.Str), ("power_poly" : PySem.Str), ("symbol_by" : PySem.Str), ("is_making" : PySem.Str), ("check_making" : PySem.Str), ("made" : PySem.Str), ("symbol" : PySem.Str), ("poly_sum" : PySem.Str), ("_law_cask" : PySem.Str)]
def lo2 : List PySem.Str := [("_law_tap" : PySem.Str), ("_law_one_from" : PySem.Str), ("_law_alike" : PySem.Str), ("_law_measure" : PySem.Str), ("_law_frac" : PySem.Str), ("_law_plus" : PySem.Str), ("_law_by" : PySem.Str), ("_law_is_fraction" : PySem.Str), ("_law_trimmed" : PySem.Str), ("_law_mixed" : PySem.Str), ("_law_product" : PySem.Str), ("_law_rise" : PySem.Str), ("_law_rooted" : PySem.Str), ("_law_scaled" : PySem.Str), ("_law_drawn_fraction" : PySem.Str), ("_law_drawn_roots" : PySem.Str), ("_law_bent" : PySem.Str), ("_law_drawn_poly" : PySem.Str), ("_law_is_making" : PySem.Str), ("_law_made" : PySem.Str)]
def lo3 : List PySem.Str := [("_law_drawn_making" : PySem.Str), ("_law_near" : PySem.Str), ("_law_right" : PySem.Str)]
abbrev lo : List PySem.Str := lo0 ++ lo1 ++ lo2 ++ lo3
end L50
set_option maxRecDepth 100000
set_option maxHeartbeats 0
namespace L50
open PySem PySem.Spec PyProof.Rows L2 DL
theorem run (w : World) : HandSHeadRun.RunEqI R (PySem.W.view R.prog [0, 71]) hk ob 30000 lo w := by
  unfold HandSHeadRun.RunEqI
  kernel_rfl
end L50
set_option maxRecDepth 100000
set_option maxHeartbeats 1000000
namespace L50
open PySem PySem.Spec PyProof.Rows L2 DL
/-! ### mirrors -/
def c_NOUGHT : DV := .tup [.int 0, .int 1]
def c_ONE : DV := .tup [.int 1, .int 1]
def c_MOST_NUMBERS : DV := .int 13
def c_MOST_DEGREE : DV := .int 6
def c_TIMES : DV := .str "times"
def c_STEPS : DV := .str "steps"
def g_is_whole : SF := (sRet (eBoth (eCal fIsi (aCons (eVar 0) (aCons (eC (.ty "int")) aNil))) (eNo (eCal fIsi (aCons (eVar 0) (aCons (eC (.ty "bool")) aNil))))))
def m_is_whole : Mir := runD 1 1 g_is_whole
def g_is_between : SF := (sRet (eBoth (eFn m_is_whole (aCons (eVar 0) aNil)) (eChain gLe gLe (eVar 1) (eVar 0) (eVar 2))))
def m_is_between : Mir := runD 3 3 g_is_between
def g_is_tuple_of : SF := (sRet (eBoth (eCal fIsi (aCons (eVar 0) (aCons (eC (.ty "tuple")) aNil))) (eChain gLe gLe (eVar 1) (eCal fLen (aCons (eVar 0) aNil)) (eVar 2))))
def m_is_tuple_of : Mir := runD 3 3 g_is_tuple_of
def g_is_fraction : SF := (sSeq (sIf (tAny (tNo (tOf (eFn m_is_tuple_of (aCons (eVar 0) (aCons (eC (.int 2)) (aCons (eC (.int 2)) aNil)))))) (tAny (tNo (tOf (eFn m_is_whole (aCons (eBin gIx (eVar 0) (eC (.int 0))) aNil)))) (tNo (tOf (eFn m_is_whole (aCons (eBin gIx (eVar 0) (eC (.int 1))) aNil)))))) (sRet (eC (.bl false))) sNx)
  (sRet (eBoth (eBin gGt (eBin gIx (eVar 0) (eC (.int 1))) (eC (.int 0))) (eBin gEq (eCal fGcd (aCons (eBin gIx (eVar 0) (eC (.int 0))) (aCons (eBin gIx (eVar 0) (eC (.int 1))) aNil))) (eC (.int 1))))))
def m_is_fraction : Mir := runD 1 1 g_is_fraction
def x_are_fractions_1 : EF := (eFn m_is_fraction (aCons (eVar 3) aNil))
def i_are_fractions_1 : IF := (iOf (eVar 0))
def g_are_fractions : SF := (sRet (eBoth (eFn m_is_tuple_of (aCons (eVar 0) (aCons (eVar 1) (aCons (eVar 2) aNil)))) (eCal fAllL (aCons (eLst (lComp (.nm 3) i_are_fractions_1 (M.ret true) x_are_fractions_1)) aNil))))
def m_are_fractions : Mir := runD 3 4 g_are_fractions
def g_fraction : SF := (sSeq (sSet (.nm 2) (eCal fGcd (aCons (eVar 0) (aCons (eVar 1) aNil))))
  (sRet (eIf (tOf (eBin gGt (eVar 1) (eC (.int 0)))) (eTup (aCons (eBin gFdiv (eVar 0) (eVar 2)) (aCons (eBin gFdiv (eVar 1) (eVar 2)) aNil))) (eTup (aCons (eBin gFdiv (eNeg (eVar 0)) (eVar 2)) (aCons (eBin gFdiv (eNeg (eVar 1)) (eVar 2)) aNil))))))
def m_fraction : Mir := runD 2 3 g_fraction
def g_whole : SF := (sRet (eTup (aCons (eVar 0) (aCons (eC (.int 1)) aNil))))
def m_whole : Mir := runD 1 1 g_whole
def g_plus : SF := (sRet (eFn m_fraction (aCons (eBin gAdd (eBin gMul (eBin gIx (eVar 0) (eC (.int 0))) (eBin gIx (eVar 1) (eC (.int 1)))) (eBin gMul (eBin gIx (eVar 1) (eC (.int 0))) (eBin gIx (eVar 0) (eC (.int 1))))) (aCons (eBin gMul (eBin gIx (eVar 0) (eC (.int 1))) (eBin gIx (eVar 1) (eC (.int 1)))) aNil))))
def m_plus : Mir := runD 2 2 g_plus
def g_times : SF := (sRet (eFn m_fraction (aCons (eBin gMul (eBin gIx (eVar 0) (eC (.int 0))) (eBin gIx (eVar 1) (eC (.int 0)))) (aCons (eBin gMul (eBin gIx (eVar 0) (eC (.int 1))) (eBin gIx (eVar 1) (eC (.int 1)))) aNil))))
def m_times : Mir := runD 2 2 g_times
def g_is_poly_by : SF := (sRet (eBoth (eFn m_are_fractions (aCons (eVar 0) (aCons (eC (.int 0)) (aCons (eC c_MOST_NUMBERS) aNil)))) (eAny (eBin gEq (eVar 0) (eTup aNil)) (eBin gNe (eBin gIx (eVar 0) (eNeg (eC (.int 1)))) (eC c_NOUGHT)))))
def m_is_poly_by : Mir := runD 1 1 g_is_poly_by
def q_lessened_1 : TF := (tBoth (tOf (eBin gGt (eVar 1) (eC (.int 0)))) (tOf (eBin gEq (eBin gIx (eVar 0) (eBin gSub (eVar 1) (eC (.int 1)))) (eC c_NOUGHT))))
def b_lessened_1 : SF := (sSet (.nm 1) (eBin gSub (eVar 1) (eC (.int 1))))
def g_lessened : SF := (sSeq (sSet (.nm 1) (eCal fLen (aCons (eVar 0) aNil)))
  (sSeq (sWh 1000 q_lessened_1 b_lessened_1)
  (sRet (eCal fTup (aCons (eSl (eVar 0) oNone (oSome (eVar 1))) aNil)))))
def m_lessened : Mir := runD 1 2 g_lessened
def g_padded : SF := (sRet (eBin gAdd (eVar 0) (eBin gMul (eTup (aCons (eC c_NOUGHT) aNil)) (eBin gSub (eVar 1) (eCal fLen (aCons (eVar 0) aNil))))))
def m_padded : Mir := runD 2 2 g_padded
def x_scaled_1 : EF := (eFn m_times (aCons (eVar 1) (aCons (eVar 2) aNil)))
def i_scaled_1 : IF := (iOf (eVar 0))
def g_scaled : SF := (sRet (eFn m_lessened (aCons (eLst (lComp (.nm 2) i_scaled_1 (M.ret true) x_scaled_1)) aNil)))
def m_scaled : Mir := runD 2 3 g_scaled
def x_sum_by_1 : EF := (eFn m_plus (aCons (eVar 3) (aCons (eVar 4) aNil)))
def i_sum_by_1 : IF := (iZp (aCons (eFn m_padded (aCons (eVar 0) (aCons (eVar 2) aNil))) (aCons (eFn m_padded (aCons (eVar 1) (aCons (eVar 2) aNil))) aNil)))
def g_sum_by : SF := (sSeq (sSet (.nm 2) (eCal fMax (aCons (eCal fLen (aCons (eVar 0) aNil)) (aCons (eCal fLen (aCons (eVar 1) aNil)) aNil))))
  (sRet (eFn m_lessened (aCons (eLst (lComp (.tp [(.nm 3), (.nm 4)]) i_sum_by_1 (M.ret true) x_sum_by_1)) aNil))))
def m_sum_by : Mir := runD 2 5 g_sum_by
def x_rise_of_1 : EF := (eFn m_times (aCons (eFn m_whole (aCons (eVar 1) aNil)) (aCons (eVar 2) aNil)))
def i_rise_of_1 : IF := (iEn (aCons (eVar 0) aNil))
def g_rise_of : SF := (sRet (eFn m_lessened (aCons (eSl (eLst (lComp (.tp [(.nm 1), (.nm 2)]) i_rise_of_1 (M.ret true) x_rise_of_1)) (oSome (eC (.int 1))) oNone) aNil)))
def m_rise_of : Mir := runD 1 3 g_rise_of
def g_check_poly : SF := (sIf (tNo (tOf (eFn m_is_poly_by (aCons (eVar 0) aNil)))) M.stk sNx)
def m_check_poly : Mir := runD 1 1 g_check_poly
def g_check_polys : SF := (sSeq (sExpr (eFn m_check_poly (aCons (eVar 0) aNil)))
  (sExpr (eFn m_check_poly (aCons (eVar 1) aNil))))
def m_check_polys : Mir := runD 2 2 g_check_polys
def g_check_most : SF := (sIf (tNo (tOf (eFn m_is_between (aCons (eVar 0) (aCons (eC (.int 1)) (aCons (eC c_MOST_DEGREE) aNil)))))) M.stk sNx)
def m_check_most : Mir := runD 1 1 g_check_most
def g_check_poly_up_to : SF := (sIf (tAny (tNo (tOf (eFn m_is_poly_by (aCons (eVar 1) aNil)))) (tOf (eBin gGt (eCal fLen (aCons (eVar 1) aNil)) (eBin gAdd (eVar 0) (eC (.int 1)))))) M.stk sNx)
def m_check_poly_up_to : Mir := runD 2 2 g_check_poly_up_to
def g_is_making_by : SF := (sSeq (sIf (tAny (tNo (tOf (eFn m_is_tuple_of (aCons (eVar 1) (aCons (eC (.int 2)) (aCons (eC (.int 2)) aNil)))))) (tAny (tNo (tOf (eCal fIsi (aCons (eBin gIx (eVar 1) (eC (.int 0))) (aCons (eC (.ty "str")) aNil))))) (tOf (eBin (gIn true) (eBin gIx (eVar 1) (eC (.int 0))) (eTup (aCons (eC c_TIMES) (aCons (eC c_STEPS) aNil))))))) (sRet (eC (.bl false))) sNx)
  (sRet (eFn m_are_fractions (aCons (eBin gIx (eVar 1) (eC (.int 1))) (aCons (eBin gAdd (eVar 0) (eC (.int 1))) (aCons (eBin gAdd (eVar 0) (eC (.int 1))) aNil))))))
def m_is_making_by : Mir := runD 2 2 g_is_making_by
def b_made_by_1 : SF := (sPar2 6 7 (eFn m_sum_by (aCons (eVar 6) (aCons (eFn m_scaled (aCons (eVar 7) (aCons (eVar 4) aNil))) aNil))) (eFn m_rise_of (aCons (eVar 7) aNil)))
def i_made_by_1 : IF := (iOf (eVar 3))
def x_made_by_1 : EF := (eFn m_times (aCons (eVar 4) (aCons (eVar 5) aNil)))
def i_made_by_2 : IF := (iZp (aCons (eVar 3) (aCons (eVar 1) aNil)))
def g_made_by : SF := (sSeq (sSet (.tp [(.nm 2), (.nm 3)]) (eVar 0))
  (sSeq (sIf (tOf (eBin gEq (eVar 2) (eC c_TIMES))) (sRet (eFn m_lessened (aCons (eLst (lComp (.tp [(.nm 4), (.nm 5)]) i_made_by_2 (M.ret true) x_made_by_1)) aNil))) sNx)
  (sSeq (sPar2 6 7 (eTup aNil) (eVar 1))
  (sSeq (sFor (.nm 4) i_made_by_1 b_made_by_1)
  (sRet (eVar 6))))))
def m_made_by : Mir := runD 2 8 g_made_by
def g_power_poly : SF := (sRet (eBin gAdd (eBin gMul (eTup (aCons (eC c_NOUGHT) aNil)) (eVar 0)) (eTup (aCons (eC c_ONE) aNil))))
def m_power_poly : Mir := runD 1 1 g_power_poly
def x_symbol_by_1 : EF := (eFn m_whole (aCons (eCal fComb (aCons (eVar 3) (aCons (eVar 4) aNil))) aNil))
def i_symbol_by_1 : IF := (iRg1 (aCons (eBin gAdd (eVar 3) (eC (.int 1))) aNil))
def g_symbol_by : SF := (sSeq (sSet (.tp [(.nm 1), (.nm 2)]) (eVar 0))
  (sSeq (sSet (.nm 3) (eBin gSub (eCal fLen (aCons (eVar 2) aNil)) (eC (.int 1))))
  (sSeq (sIf (tOf (eBin gEq (eVar 1) (eC c_STEPS))) (sRet (eFn m_made_by (aCons (eVar 0) (aCons (eFn m_power_poly (aCons (eVar 3) aNil)) aNil)))) sNx)
  (sRet (eFn m_made_by (aCons (eVar 0) (aCons (eCal fTup (aCons (eLst (lComp (.nm 4) i_symbol_by_1 (M.ret true) x_symbol_by_1)) aNil)) aNil)))))))
def m_symbol_by : Mir := runD 1 5 g_symbol_by
def g_is_making : SF := (sSeq (sExpr (eFn m_check_most (aCons (eVar 0) aNil)))
  (sRet (eFn m_is_making_by (aCons (eVar 0) (aCons (eVar 1) aNil)))))
def m_is_making : Mir := runD 2 2 g_is_making
def g_check_making : SF := (sSeq (sExpr (eFn m_check_most (aCons (eVar 0) aNil)))
  (sIf (tNo (tOf (eFn m_is_making_by (aCons (eVar 0) (aCons (eVar 1) aNil))))) M.stk sNx))
def m_check_making : Mir := runD 2 2 g_check_making
def g_made : SF := (sSeq (sExpr (eFn m_check_making (aCons (eVar 0) (aCons (eVar 1) aNil))))
  (sSeq (sExpr (eFn m_check_poly_up_to (aCons (eVar 0) (aCons (eVar 2) aNil))))
  (sRet (eFn m_made_by (aCons (eVar 1) (aCons (eVar 2) aNil))))))
def m_made : Mir := runD 3 3 g_made
def g_symbol : SF := (sSeq (sExpr (eFn m_check_making (aCons (eVar 0) (aCons (eVar 1) aNil))))
  (sRet (eFn m_symbol_by (aCons (eVar 1) aNil))))
def m_symbol : Mir := runD 2 2 g_symbol
def g_poly_sum : SF := (sSeq (sExpr (eFn m_check_polys (aCons (eVar 0) (aCons (eVar 1) aNil))))
  (sRet (eFn m_sum_by (aCons (eVar 0) (aCons (eVar 1) aNil)))))
def m_poly_sum : Mir := runD 2 2 g_poly_sum
def b__law_cask_1 : SF := (sSet (.nm 3) (eBin gMod (eCal fInt (aCons (eBin gAdd (eBin gAdd (eBin gMul (eVar 3) (eC (.int 3935559000370003845))) (eBin gMul (eCal fInt (aCons (eVar 6) aNil)) (eBin gAdd (eBin gMul (eC (.int 2)) (eVar 5)) (eC (.int 3))))) (eVar 4)) aNil)) (eC (.int 9223372036854775783))))
def i__law_cask_1 : IF := (iEn (aCons (eSl (eVar 0) oNone (oSome (eC (.int 54)))) aNil))
def g__law_cask : SF := (sSeq (sSet (.nm 2) (eIf (tOf (eBin gLt (eVar 1) (eCal fLen (aCons (eVar 0) aNil)))) (eCal fInt (aCons (eBin gIx (eVar 0) (eVar 1)) aNil)) (eC (.int 0))))
  (sSeq (sPar2 3 4 (eBin gAdd (eC (.int 5)) (eBin gMul (eC (.int 7919)) (eVar 1))) (eBin gAdd (eC (.int 1442695040888963407)) (eBin gMul (eC (.int 2)) (eVar 1))))
  (sSeq (sFor (.tp [(.nm 5), (.nm 6)]) i__law_cask_1 b__law_cask_1)
  (sRet (eLst (lDisp (aCons (eIf (tAny (tOf (eBin gLt (eVar 2) (eC (.int 0)))) (tOf (eBin gGt (eVar 2) (eBin gPow (eC (.int 10)) (eC (.int 11)))))) (eBin gMod (eCal fAbs (aCons (eVar 2) aNil)) (eBin gPow (eC (.int 10)) (eC (.int 50)))) (eC (.int 0))) (aCons (eVar 3) (aCons (eVar 4) aNil)))))))))
def m__law_cask : Mir := runD 2 7 g__law_cask
def g__law_tap : SF := (sSeq (sIf (tOf (eBin gGt (eBin gIx (eVar 0) (eC (.int 0))) (eC (.int 0)))) (sSeq (sSet (.nm 2) (eBin gMod (eCal fInt (aCons (eBin gIx (eVar 0) (eC (.int 0))) aNil)) (eVar 1)))
  (sSeq (sPut 0 (eC (.int 0)) (eBin gFdiv (eBin gIx (eVar 0) (eC (.int 0))) (eVar 1)))
  (sRet (eVar 2)))) sNx)
  (sSeq (sPut 0 (eC (.int 1)) (eBin gMod (eCal fInt (aCons (eBin gAdd (eBin gMul (eBin gIx (eVar 0) (eC (.int 1))) (eC (.int 6364136223846793005))) (eBin gIx (eVar 0) (eC (.int 2)))) aNil)) (eC (.int 9223372036854775783))))
  (sRet (eBin gMod (eCal fInt (aCons (eBin gFdiv (eBin gIx (eVar 0) (eC (.int 1))) (eC (.int 2147483648))) aNil)) (eVar 1)))))
def m__law_tap : Mir := runD 2 3 g__law_tap
def g__law_one_from : SF := (sRet (eBin gIx (eVar 1) (eFn m__law_tap (aCons (eVar 0) (aCons (eCal fLen (aCons (eVar 1) aNil)) aNil)))))
def m__law_one_from : Mir := runD 2 2 g__law_one_from
def g__law_alike : SF := (sRet (eBin gEq (eCal fRepr (aCons (eVar 0) aNil)) (eCal fRepr (aCons (eVar 1) aNil))))
def m__law_alike : Mir := runD 2 2 g__law_alike
def b__law_measure_1 : SF := (sSeq (sIf (tOf (eBin gEq (eVar 1) (eC (.int 0)))) (sRet (eVar 0)) sNx)
  (sPar2 0 1 (eVar 1) (eBin gMod (eCal fInt (aCons (eVar 0) aNil)) (eVar 1))))
def i__law_measure_1 : IF := (iRg1 (aCons (eBin gAdd (eBin gMul (eC (.int 2)) (eBin gAdd (eBits (eVar 0)) (eBits (eVar 1)))) (eC (.int 2))) aNil))
def g__law_measure : SF := (sSeq (sPar2 0 1 (eCal fAbs (aCons (eVar 0) aNil)) (eCal fAbs (aCons (eVar 1) aNil)))
  (sSeq (sFor (.nm 2) i__law_measure_1 b__law_measure_1)
  (sRet (eVar 0))))
def m__law_measure : Mir := runD 2 3 g__law_measure
def g__law_frac : SF := (sSeq (sSet (.nm 2) (eBin gMul (eFn m__law_measure (aCons (eVar 0) (aCons (eVar 1) aNil))) (eIf (tOf (eBin gGt (eVar 1) (eC (.int 0)))) (eC (.int 1)) (eNeg (eC (.int 1))))))
  (sRet (eTup (aCons (eBin gFdiv (eVar 0) (eVar 2)) (aCons (eBin gFdiv (eVar 1) (eVar 2)) aNil)))))
def m__law_frac : Mir := runD 2 3 g__law_frac
def g__law_plus : SF := (sRet (eFn m__law_frac (aCons (eBin gAdd (eBin gMul (eBin gIx (eVar 0) (eC (.int 0))) (eBin gIx (eVar 1) (eC (.int 1)))) (eBin gMul (eBin gIx (eVar 1) (eC (.int 0))) (eBin gIx (eVar 0) (eC (.int 1))))) (aCons (eBin gMul (eBin gIx (eVar 0) (eC (.int 1))) (eBin gIx (eVar 1) (eC (.int 1)))) aNil))))
def m__law_plus : Mir := runD 2 2 g__law_plus
def g__law_by : SF := (sRet (eFn m__law_frac (aCons (eBin gMul (eBin gIx (eVar 0) (eC (.int 0))) (eBin gIx (eVar 1) (eC (.int 0)))) (aCons (eBin gMul (eBin gIx (eVar 0) (eC (.int 1))) (eBin gIx (eVar 1) (eC (.int 1)))) aNil))))
def m__law_by : Mir := runD 2 2 g__law_by
def x__law_is_fraction_1 : EF := (eC (.int 1))
def q__law_is_fraction_1 : TF := (tAny (tNo (tOf (eCal fIsi (aCons (eVar 1) (aCons (eC (.ty "int")) aNil))))) (tOf (eCal fIsi (aCons (eVar 1) (aCons (eC (.ty "bool")) aNil)))))
def i__law_is_fraction_1 : IF := (iOf (eVar 0))
def g__law_is_fraction : SF := (sSeq (sIf (tAny (tNo (tOf (eCal fIsi (aCons (eVar 0) (aCons (eC (.ty "tuple")) aNil))))) (tAny (tOf (eBin gNe (eCal fLen (aCons (eVar 0) aNil)) (eC (.int 2)))) (tOf (eBin gNe (eLst (lComp (.nm 1) i__law_is_fraction_1 q__law_is_fraction_1 x__law_is_fraction_1)) (eLst (lDisp aNil)))))) (sRet (eC (.bl false))) sNx)
  (sRet (eBoth (eBin gGt (eBin gIx (eVar 0) (eC (.int 1))) (eC (.int 0))) (eBin gEq (eFn m__law_measure (aCons (eBin gIx (eVar 0) (eC (.int 0))) (aCons (eBin gIx (eVar 0) (eC (.int 1))) aNil))) (eC (.int 1))))))
def m__law_is_fraction : Mir := runD 1 2 g__law_is_fraction
def b__law_trimmed_1 : SF := (sSeq (sSet (.nm 1) (eIf (tOf (eBin gEq (eBin gIx (eBin gIx (eVar 1) (eNeg (eC (.int 1)))) (eC (.int 0))) (eC (.int 0)))) (eSl (eVar 1) oNone (oSome (eNeg (eC (.int 1))))) (eVar 1)))
  (sIf (tOf (eBin gEq (eVar 1) (eLst (lDisp aNil)))) (sRet (eTup aNil)) sNx))
def i__law_trimmed_1 : IF := (iRg1 (aCons (eCal fLen (aCons (eVar 0) aNil)) aNil))
def g__law_trimmed : SF := (sSeq (sSet (.nm 1) (eLst (lList (aCons (eVar 0) aNil))))
  (sSeq (sFor (.nm 2) i__law_trimmed_1 b__law_trimmed_1)
  (sRet (eCal fTup (aCons (eVar 1) aNil)))))
def m__law_trimmed : Mir := runD 1 3 g__law_trimmed
def x__law_mixed_1 : EF := (eFn m__law_plus (aCons (eFn m__law_by (aCons (eVar 1) (aCons (eVar 7) aNil))) (aCons (eFn m__law_by (aCons (eVar 3) (aCons (eVar 8) aNil))) aNil)))
def i__law_mixed_1 : IF := (iZp (aCons (eBin gIx (eVar 5) (eC (.int 0))) (aCons (eBin gIx (eVar 5) (eC (.int 1))) aNil)))
def x__law_mixed_2 : EF := (eBin gAdd (eLst (lList (aCons (eVar 6) aNil))) (eLst (lBin gRep (eLst (lDisp (aCons (eTup (aCons (eC (.int 0)) (aCons (eC (.int 1)) aNil))) aNil))) (eBin gSub (eVar 4) (eCal fLen (aCons (eVar 6) aNil))))))
def i__law_mixed_2 : IF := (iOf (eTup (aCons (eVar 0) (aCons (eVar 2) aNil))))
def g__law_mixed : SF := (sSeq (sSet (.nm 4) (eCal fMax (aCons (eCal fLen (aCons (eVar 0) aNil)) (aCons (eCal fLen (aCons (eVar 2) aNil)) aNil))))
  (sSeq (sSet (.nm 5) (eLst (lComp (.nm 6) i__law_mixed_2 (M.ret true) x__law_mixed_2)))
  (sRet (eFn m__law_trimmed (aCons (eLst (lComp (.tp [(.nm 7), (.nm 8)]) i__law_mixed_1 (M.ret true) x__law_mixed_1)) aNil)))))
def m__law_mixed : Mir := runD 4 9 g__law_mixed
def b__law_product_1 : SF := (sPut 2 (eBin gAdd (eVar 3) (eVar 5)) (eFn m__law_plus (aCons (eBin gIx (eVar 2) (eBin gAdd (eVar 3) (eVar 5))) (aCons (eFn m__law_by (aCons (eVar 4) (aCons (eVar 6) aNil))) aNil))))
def i__law_product_1 : IF := (iEn (aCons (eVar 1) aNil))
def b__law_product_2 : SF := (sFor (.tp [(.nm 5), (.nm 6)]) i__law_product_1 b__law_product_1)
def i__law_product_2 : IF := (iEn (aCons (eVar 0) aNil))
def g__law_product : SF := (sSeq (sOwn 2 (lBin gRep (eLst (lDisp (aCons (eTup (aCons (eC (.int 0)) (aCons (eC (.int 1)) aNil))) aNil))) (eCal fMax (aCons (eC (.int 0)) (aCons (eBin gSub (eBin gAdd (eCal fLen (aCons (eVar 0) aNil)) (eCal fLen (aCons (eVar 1) aNil))) (eC (.int 1))) aNil)))))
  (sSeq (sFor (.tp [(.nm 3), (.nm 4)]) i__law_product_2 b__law_product_2)
  (sRet (eFn m__law_trimmed (aCons (eVar 2) aNil)))))
def m__law_product : Mir := runD 2 7 g__law_product
def x__law_rise_1 : EF := (eFn m__law_by (aCons (eTup (aCons (eVar 1) (aCons (eC (.int 1)) aNil))) (aCons (eVar 2) aNil)))
def i__law_rise_1 : IF := (iEn (aCons (eVar 0) aNil))
def g__law_rise : SF := (sRet (eFn m__law_trimmed (aCons (eSl (eLst (lComp (.tp [(.nm 1), (.nm 2)]) i__law_rise_1 (M.ret true) x__law_rise_1)) (oSome (eC (.int 1))) oNone) aNil)))
def m__law_rise : Mir := runD 1 3 g__law_rise
def b__law_rooted_1 : SF := (sSet (.nm 1) (eFn m__law_product (aCons (eVar 1) (aCons (eTup (aCons (eTup (aCons (eBin gSub (eC (.int 0)) (eBin gIx (eVar 2) (eC (.int 0)))) (aCons (eBin gIx (eVar 2) (eC (.int 1))) aNil))) (aCons (eTup (aCons (eC (.int 1)) (aCons (eC (.int 1)) aNil))) aNil))) aNil))))
def i__law_rooted_1 : IF := (iOf (eVar 0))
def g__law_rooted : SF := (sSeq (sSet (.nm 1) (eTup (aCons (eTup (aCons (eC (.int 1)) (aCons (eC (.int 1)) aNil))) aNil)))
  (sSeq (sFor (.nm 2) i__law_rooted_1 b__law_rooted_1)
  (sRet (eVar 1))))
def m__law_rooted : Mir := runD 1 3 g__law_rooted
def x__law_scaled_1 : EF := (eFn m__law_by (aCons (eVar 2) (aCons (eVar 1) aNil)))
def i__law_scaled_1 : IF := (iOf (eVar 0))
def g__law_scaled : SF := (sRet (eFn m__law_trimmed (aCons (eLst (lComp (.nm 2) i__law_scaled_1 (M.ret true) x__law_scaled_1)) aNil)))
def m__law_scaled : Mir := runD 2 3 g__law_scaled
def g__law_drawn_fraction : SF := (sRet (eFn m__law_frac (aCons (eBin gSub (eFn m__law_tap (aCons (eVar 0) (aCons (eC (.int 13)) aNil))) (eC (.int 6))) (aCons (eFn m__law_one_from (aCons (eVar 0) (aCons (eTup (aCons (eC (.int 1)) (aCons (eC (.int 1)) (aCons (eC (.int 1)) (aCons (eC (.int 2)) (aCons (eC (.int 3)) aNil)))))) aNil))) aNil))))
def m__law_drawn_fraction : Mir := runD 1 1 g__law_drawn_fraction
def x__law_drawn_roots_1 : EF := (eFn m__law_drawn_fraction (aCons (eVar 0) aNil))
def i__law_drawn_roots_1 : IF := (iRg1 (aCons (eVar 1) aNil))
def g__law_drawn_roots : SF := (sSeq (sOwn 2 (lComp (.nm 3) i__law_drawn_roots_1 (M.ret true) x__law_drawn_roots_1))
  (sSeq (sIf (tBoth (tOf (eBin gGt (eVar 1) (eC (.int 1)))) (tOf (eBin gEq (eFn m__law_tap (aCons (eVar 0) (aCons (eC (.int 3)) aNil))) (eC (.int 0))))) (sPut 2 (eC (.int 0)) (eBin gIx (eVar 2) (eNeg (eC (.int 1))))) sNx)
  (sRet (eCal fTup (aCons (eVar 2) aNil)))))
def m__law_drawn_roots : Mir := runD 2 4 g__law_drawn_roots
def g__law_bent : SF := (sSeq (sPar2 1 2 (eFn m__law_drawn_fraction (aCons (eVar 0) aNil)) (eFn m__law_frac (aCons (eBin gAdd (eC (.int 1)) (eFn m__law_tap (aCons (eVar 0) (aCons (eC (.int 5)) aNil)))) (aCons (eFn m__law_one_from (aCons (eVar 0) (aCons (eTup (aCons (eC (.int 1)) (aCons (eC (.int 2)) (aCons (eC (.int 3)) aNil)))) aNil))) aNil))))
  (sRet (eFn m__law_mixed (aCons (eFn m__law_product (aCons (eTup (aCons (eTup (aCons (eBin gSub (eC (.int 0)) (eBin gIx (eVar 1) (eC (.int 0)))) (aCons (eBin gIx (eVar 1) (eC (.int 1))) aNil))) (aCons (eTup (aCons (eC (.int 1)) (aCons (eC (.int 1)) aNil))) aNil))) (aCons (eTup (aCons (eTup (aCons (eBin gSub (eC (.int 0)) (eBin gIx (eVar 1) (eC (.int 0)))) (aCons (eBin gIx (eVar 1) (eC (.int 1))) aNil))) (aCons (eTup (aCons (eC (.int 1)) (aCons (eC (.int 1)) aNil))) aNil))) aNil))) (aCons (eTup (aCons (eC (.int 1)) (aCons (eC (.int 1)) aNil))) (aCons (eTup (aCons (eVar 2) aNil)) (aCons (eTup (aCons (eC (.int 1)) (aCons (eC (.int 1)) aNil))) aNil)))))))
def m__law_bent : Mir := runD 1 3 g__law_bent
def x__law_drawn_poly_1 : EF := (eFn m__law_drawn_fraction (aCons (eVar 0) aNil))
def i__law_drawn_poly_1 : IF := (iRg1 (aCons (eBin gAdd (eVar 3) (eC (.int 1))) aNil))
def g__law_drawn_poly : SF := (sSeq (sPar2 2 3 (eFn m__law_tap (aCons (eVar 0) (aCons (eC (.int 6)) aNil))) (eFn m__law_tap (aCons (eVar 0) (aCons (eBin gAdd (eVar 1) (eC (.int 1))) aNil))))
  (sSeq (sSet (.nm 4) (eFn m__law_one_from (aCons (eVar 0) (aCons (eTup (aCons (eTup (aCons (eC (.int 1)) (aCons (eC (.int 1)) aNil))) (aCons (eTup (aCons (eNeg (eC (.int 1))) (aCons (eC (.int 1)) aNil))) (aCons (eTup (aCons (eC (.int 2)) (aCons (eC (.int 1)) aNil))) (aCons (eTup (aCons (eC (.int 1)) (aCons (eC (.int 2)) aNil))) (aCons (eTup (aCons (eNeg (eC (.int 3))) (aCons (eC (.int 1)) aNil))) aNil)))))) aNil))))
  (sSeq (sIf (tOf (eBin gEq (eVar 2) (eC (.int 0)))) (sRet (eFn m__law_trimmed (aCons (eLst (lComp (.nm 5) i__law_drawn_poly_1 (M.ret true) x__law_drawn_poly_1)) aNil))) sNx)
  (sSeq (sIf (tBoth (tOf (eBin gLt (eVar 2) (eC (.int 3)))) (tOf (eBin gGt (eVar 3) (eC (.int 1))))) (sRet (eFn m__law_scaled (aCons (eFn m__law_product (aCons (eFn m__law_rooted (aCons (eFn m__law_drawn_roots (aCons (eVar 0) (aCons (eBin gSub (eVar 3) (eC (.int 2))) aNil))) aNil)) (aCons (eFn m__law_bent (aCons (eVar 0) aNil)) aNil))) (aCons (eVar 4) aNil)))) sNx)
  (sRet (eFn m__law_scaled (aCons (eFn m__law_rooted (aCons (eFn m__law_drawn_roots (aCons (eVar 0) (aCons (eVar 3) aNil))) aNil)) (aCons (eVar 4) aNil))))))))
def m__law_drawn_poly : Mir := runD 2 6 g__law_drawn_poly
def x__law_is_making_1 : EF := (eC (.int 1))
def q__law_is_making_1 : TF := (tNo (tOf (eFn m__law_is_fraction (aCons (eVar 2) aNil))))
def i__law_is_making_1 : IF := (iOf (eBin gIx (eVar 1) (eC (.int 1))))
def g__law_is_making : SF := (sSeq (sIf (tAny (tNo (tOf (eCal fIsi (aCons (eVar 1) (aCons (eC (.ty "tuple")) aNil))))) (tAny (tOf (eBin gNe (eCal fLen (aCons (eVar 1) aNil)) (eC (.int 2)))) (tAny (tNo (tOf (eCal fIsi (aCons (eBin gIx (eVar 1) (eC (.int 0))) (aCons (eC (.ty "str")) aNil))))) (tAny (tOf (eBin (gIn true) (eBin gIx (eVar 1) (eC (.int 0))) (eTup (aCons (eC (.str "times")) (aCons (eC (.str "steps")) aNil))))) (tNo (tOf (eCal fIsi (aCons (eBin gIx (eVar 1) (eC (.int 1))) (aCons (eC (.ty "tuple")) aNil))))))))) (sRet (eC (.bl false))) sNx)
  (sRet (eBoth (eBin gEq (eCal fLen (aCons (eBin gIx (eVar 1) (eC (.int 1))) aNil)) (eBin gAdd (eVar 0) (eC (.int 1)))) (eBin gEq (eLst (lComp (.nm 2) i__law_is_making_1 q__law_is_making_1 x__law_is_making_1)) (eLst (lDisp aNil))))))
def m__law_is_making : Mir := runD 2 3 g__law_is_making
def b__law_made_1 : SF := (sPar2 4 5 (eFn m__law_mixed (aCons (eVar 4) (aCons (eTup (aCons (eC (.int 1)) (aCons (eC (.int 1)) aNil))) (aCons (eVar 5) (aCons (eVar 2) aNil))))) (eFn m__law_rise (aCons (eVar 5) aNil)))
def i__law_made_1 : IF := (iOf (eBin gIx (eVar 0) (eC (.int 1))))
def x__law_made_1 : EF := (eFn m__law_by (aCons (eVar 2) (aCons (eVar 3) aNil)))
def i__law_made_2 : IF := (iZp (aCons (eBin gIx (eVar 0) (eC (.int 1))) (aCons (eVar 1) aNil)))
def g__law_made : SF := (sSeq (sIf (tOf (eBin gEq (eBin gIx (eVar 0) (eC (.int 0))) (eC (.str "times")))) (sRet (eFn m__law_trimmed (aCons (eLst (lComp (.tp [(.nm 2), (.nm 3)]) i__law_made_2 (M.ret true) x__law_made_1)) aNil))) sNx)
  (sSeq (sPar2 4 5 (eTup aNil) (eVar 1))
  (sSeq (sFor (.nm 2) i__law_made_1 b__law_made_1)
  (sRet (eVar 4)))))
def m__law_made : Mir := runD 2 6 g__law_made
def x__law_drawn_making_1 : EF := (eIf (tOf (eBin gGt (eFn m__law_tap (aCons (eVar 0) (aCons (eC (.int 4)) aNil))) (eC (.int 0)))) (eFn m__law_drawn_fraction (aCons (eVar 0) aNil)) (eTup (aCons (eC (.int 0)) (aCons (eC (.int 1)) aNil))))
def i__law_drawn_making_1 : IF := (iRg1 (aCons (eBin gAdd (eVar 1) (eC (.int 1))) aNil))
def g__law_drawn_making : SF := (sRet (eTup (aCons (eFn m__law_one_from (aCons (eVar 0) (aCons (eTup (aCons (eC (.str "times")) (aCons (eC (.str "steps")) aNil))) aNil))) (aCons (eCal fTup (aCons (eLst (lComp (.nm 2) i__law_drawn_making_1 (M.ret true) x__law_drawn_making_1)) aNil)) aNil))))
def m__law_drawn_making : Mir := runD 2 3 g__law_drawn_making
def x__law_near_1 : EF := (eTup (aCons (eVar 2) (aCons (eBin gAdd (eBin gAdd (eSl (eVar 3) oNone (oSome (eVar 4))) (eTup (aCons (eVar 6) aNil))) (eSl (eVar 3) (oSome (eBin gAdd (eVar 4) (eC (.int 1)))) oNone)) aNil)))
def i__law_near_1 : IF := (iOf (eTup (aCons (eTup (aCons (eC (.int 2)) (aCons (eC (.int 2)) aNil))) (aCons (eTup (aCons (eC (.int 1)) (aCons (eC (.int 0)) aNil))) (aCons (eTup (aCons (eC (.int 1)) (aCons (eNeg (eC (.int 1))) aNil))) (aCons (eC .non) (aCons (eC (.int 1)) (aCons (eTup (aCons (eC (.bl true)) (aCons (eC (.int 1)) aNil))) (aCons (eLst (lDisp (aCons (eC (.int 1)) (aCons (eC (.int 1)) aNil)))) (aCons (eTup (aCons (eC (.int 0)) (aCons (eC (.int 1)) aNil))) (aCons (eTup (aCons (eC (.int 0)) (aCons (eC (.int 2)) aNil))) (aCons (eTup (aCons (eC (.int 1)) (aCons (eC (.int 1)) (aCons (eC (.int 1)) aNil)))) aNil))))))))))))
def g__law_near : SF := (sSeq (sSet (.tp [(.nm 2), (.nm 3)]) (eVar 1))
  (sSeq (sSet (.nm 4) (eFn m__law_tap (aCons (eVar 0) (aCons (eCal fLen (aCons (eVar 3) aNil)) aNil))))
  (sSeq (sOwn 5 (lDisp (aCons (eVar 1) (aCons (eLst (lList (aCons (eVar 1) aNil))) (aCons (eTup (aCons (eVar 2) aNil)) (aCons (eTup (aCons (eVar 2) (aCons (eVar 3) (aCons (eTup aNil) aNil)))) (aCons (eTup (aCons (eVar 2) (aCons (eLst (lList (aCons (eVar 3) aNil))) aNil))) (aCons (eTup (aCons (eVar 2) (aCons (eBin gAdd (eVar 3) (eTup (aCons (eTup (aCons (eC (.int 1)) (aCons (eC (.int 1)) aNil))) aNil))) aNil))) (aCons (eTup (aCons (eVar 2) (aCons (eSl (eVar 3) (oSome (eC (.int 1))) oNone) aNil))) (aCons (eTup (aCons (eVar 3) (aCons (eVar 2) aNil))) aNil))))))))))
  (sSeq (sOwn 5 (lBin gCat (eVar 5) (eLst (lDisp (aCons (eTup (aCons (eC (.str "Times")) (aCons (eVar 3) aNil))) (aCons (eTup (aCons (eC (.str "")) (aCons (eVar 3) aNil))) (aCons (eTup (aCons (eC .non) (aCons (eVar 3) aNil))) (aCons (eTup (aCons (eVar 2) (aCons (eC .non) aNil))) (aCons (eC .non) (aCons (eC (.int 5)) (aCons (eC (.str "")) (aCons (eTup aNil) (aCons (eC .dct) aNil)))))))))))))
  (sSeq (sExpr (eApp 5 (eTup (aCons (eIf (tOf (eBin gEq (eVar 2) (eC (.str "times")))) (eC (.str "steps")) (eC (.str "times"))) (aCons (eVar 3) aNil)))))
  (sRet (eBin gAdd (eVar 5) (eLst (lComp (.nm 6) i__law_near_1 (M.ret true) x__law_near_1)))))))))
def m__law_near : Mir := runD 2 7 g__law_near
def b__law_right_1 : SF := (sIf (tNo (tOf (eFn m__law_alike (aCons (eIf (tOf (eBin gEq (eFn m__law_tap (aCons (eVar 0) (aCons (eC (.int 2)) aNil))) (eC (.int 0)))) (eFn m_is_making (aCons (eVar 2) (aCons (eVar 4) aNil))) (eFnK m_is_making 2 [1, 0] (aCons (eVar 4) (aCons (eVar 2) aNil)))) (aCons (eFn m__law_is_making (aCons (eVar 2) (aCons (eVar 4) aNil))) aNil))))) (sRet (eC (.bl false))) sNx)
def i__law_right_1 : IF := (iOf (eFn m__law_near (aCons (eVar 0) (aCons (eVar 3) aNil))))
def b__law_right_2 : SF := (sSeq (sSet (.nm 2) (eBin gAdd (eC (.int 1)) (eFn m__law_tap (aCons (eVar 0) (aCons (eC (.int 6)) aNil)))))
  (sSeq (sSet (.nm 3) (eFn m__law_drawn_making (aCons (eVar 0) (aCons (eVar 2) aNil))))
  (sSeq (sFor (.nm 4) i__law_right_1 b__law_right_1)
  (sSeq (sIf (tOf (eBin (isB true) (eFn m_is_making (aCons (eIf (tOf (eBin gLt (eVar 2) (eC (.int 6)))) (eBin gAdd (eVar 2) (eC (.int 1))) (eC (.int 5))) (aCons (eVar 3) aNil))) (eC (.bl false)))) (sRet (eC (.bl false))) sNx)
  (sSeq (sPar2 5 6 (eFn m__law_drawn_poly (aCons (eVar 0) (aCons (eVar 2) aNil))) (eFn m__law_drawn_poly (aCons (eVar 0) (aCons (eVar 2) aNil))))
  (sSeq (sSet (.nm 7) (eIf (tOf (eBin gEq (eFn m__law_tap (aCons (eVar 0) (aCons (eC (.int 2)) aNil))) (eC (.int 0)))) (eFn m_made (aCons (eVar 2) (aCons (eVar 3) (aCons (eVar 5) aNil)))) (eFnK m_made 3 [2, 1, 0] (aCons (eVar 5) (aCons (eVar 3) (aCons (eVar 2) aNil))))))
  (sSeq (sIf (tNo (tOf (eFn m__law_alike (aCons (eTup (aCons (eVar 7) (aCons (eFn m_made (aCons (eVar 2) (aCons (eVar 3) (aCons (eVar 6) aNil)))) aNil))) (aCons (eTup (aCons (eFn m__law_made (aCons (eVar 3) (aCons (eVar 5) aNil))) (aCons (eFn m__law_made (aCons (eVar 3) (aCons (eVar 6) aNil))) aNil))) aNil))))) (sRet (eC (.bl false))) sNx)
  (sSeq (sIf (tAny (tOf (eBin gNe (eFn m_made (aCons (eVar 2) (aCons (eVar 3) (aCons (eFn m_poly_sum (aCons (eVar 5) (aCons (eVar 6) aNil))) aNil)))) (eFn m_poly_sum (aCons (eVar 7) (aCons (eFn m_made (aCons (eVar 2) (aCons (eVar 3) (aCons (eVar 6) aNil)))) aNil))))) (tOf (eBin gNe (eFn m_made (aCons (eVar 2) (aCons (eTup (aCons (eBin gIx (eVar 3) (eC (.int 0))) (aCons (eBin gMul (eTup (aCons (eTup (aCons (eC (.int 0)) (aCons (eC (.int 1)) aNil))) aNil)) (eBin gAdd (eVar 2) (eC (.int 1)))) aNil))) (aCons (eVar 5) aNil)))) (eTup aNil)))) (sRet (eC (.bl false))) sNx)
  (sSeq (sSet (.nm 8) (eIf (tOf (eBin gEq (eBin gIx (eVar 3) (eC (.int 0))) (eC (.str "times")))) (eFn m__law_rooted (aCons (eBin gMul (eTup (aCons (eTup (aCons (eNeg (eC (.int 1))) (aCons (eC (.int 1)) aNil))) aNil)) (eVar 2)) aNil)) (eBin gAdd (eBin gMul (eTup (aCons (eTup (aCons (eC (.int 0)) (aCons (eC (.int 1)) aNil))) aNil)) (eVar 2)) (eTup (aCons (eTup (aCons (eC (.int 1)) (aCons (eC (.int 1)) aNil))) aNil)))))
  (sIf (tNo (tOf (eFn m__law_alike (aCons (eIf (tOf (eBin gEq (eFn m__law_tap (aCons (eVar 0) (aCons (eC (.int 2)) aNil))) (eC (.int 0)))) (eFn m_symbol (aCons (eVar 2) (aCons (eVar 3) aNil))) (eFnK m_symbol 2 [1, 0] (aCons (eVar 3) (aCons (eVar 2) aNil)))) (aCons (eFn m__law_made (aCons (eVar 3) (aCons (eVar 8) aNil))) aNil))))) (sRet (eC (.bl false))) sNx))))))))))
def i__law_right_2 : IF := (iRg1 (aCons (eC (.int 5)) aNil))
def g__law_right : SF := (sSeq (sFor (.nm 1) i__law_right_2 b__law_right_2)
  (sRet (eC (.bl true))))
def m__law_right : Mir := runD 1 9 g__law_right
def b_law_1 : SF := (sIf (tNo (tOf (eFnL m__law_right (lFn m__law_cask (aCons (eVar 0) (aCons (eVar 1) aNil)))))) (sRet (eC (.bl false))) sNx)
def i_law_1 : IF := (iRg1 (aCons (eCal fMin (aCons (eC (.int 4)) (aCons (eCal fMax (aCons (eC (.int 2)) (aCons (eCal fLen (aCons (eVar 0) aNil)) aNil))) aNil))) aNil))
def g_law : SF := (sSeq (sFor (.nm 1) i_law_1 b_law_1)
  (sSeq (sSet (.tp [(.nm 2), (.nm 3), (.nm 4)]) (eTup (aCons (eTup (aCons (eC (.int 1)) (aCons (eC (.int 1)) aNil))) (aCons (eTup (aCons (eC (.int 0)) (aCons (eC (.int 1)) aNil))) (aCons (eTup (aCons (eTup (aCons (eNeg (eC (.int 1))) (aCons (eC (.int 1)) aNil))) (aCons (eTup (aCons (eC (.int 0)) (aCons (eC (.int 1)) aNil))) (aCons (eTup (aCons (eC (.int 1)) (aCons (eC (.int 1)) aNil))) aNil)))) aNil)))))
  (sSeq (sPar3 5 6 7 (eTup (aCons (eC (.str "times")) (aCons (eTup (aCons (eVar 2) (aCons (eVar 3) (aCons (eVar 2) aNil)))) aNil))) (eTup (aCons (eC (.str "times")) (aCons (eTup (aCons (eVar 2) (aCons (eVar 2) (aCons (eTup (aCons (eNeg (eC (.int 1))) (aCons (eC (.int 1)) aNil))) aNil)))) aNil))) (eTup (aCons (eC (.str "steps")) (aCons (eTup (aCons (eVar 2) (aCons (eVar 3) (aCons (eTup (aCons (eNeg (eC (.int 1))) (aCons (eC (.int 1)) aNil))) aNil)))) aNil))))
  (sSeq (sSet (.nm 8) (eLst (lDisp (aCons (eFn m_symbol (aCons (eC (.int 2)) (aCons (eVar 5) aNil))) (aCons (eFn m_made (aCons (eC (.int 2)) (aCons (eVar 6) (aCons (eVar 4) aNil)))) (aCons (eFn m_made (aCons (eC (.int 2)) (aCons (eTup (aCons (eC (.str "steps")) (aCons (eTup (aCons (eVar 2) (aCons (eVar 3) (aCons (eVar 2) aNil)))) aNil))) (aCons (eVar 4) aNil)))) (aCons (eFn m_symbol (aCons (eC (.int 2)) (aCons (eVar 7) aNil))) (aCons (eFn m_made (aCons (eC (.int 2)) (aCons (eVar 7) (aCons (eTup (aCons (eTup (aCons (eC (.int 0)) (aCons (eC (.int 1)) aNil))) (aCons (eTup (aCons (eC (.int 1)) (aCons (eC (.int 1)) aNil))) aNil))) aNil)))) aNil))))))))
  (sSeq (sSet (.nm 8) (eBin gAdd (eVar 8) (eLst (lDisp (aCons (eFn m_made (aCons (eC (.int 2)) (aCons (eTup (aCons (eC (.str "steps")) (aCons (eTup (aCons (eVar 3) (aCons (eVar 2) (aCons (eVar 3) aNil)))) aNil))) (aCons (eVar 4) aNil)))) (aCons (eFn m_made (aCons (eC (.int 1)) (aCons (eTup (aCons (eC (.str "times")) (aCons (eTup (aCons (eVar 3) (aCons (eVar 2) aNil))) aNil))) (aCons (eTup (aCons (eVar 2) aNil)) aNil)))) aNil))))))
  (sRet (eBin gEq (eVar 8) (eLst (lDisp (aCons (eTup (aCons (eTup (aCons (eC (.int 1)) (aCons (eC (.int 1)) aNil))) (aCons (eTup (aCons (eC (.int 0)) (aCons (eC (.int 1)) aNil))) (aCons (eTup (aCons (eC (.int 1)) (aCons (eC (.int 1)) aNil))) aNil)))) (aCons (eTup (aCons (eTup (aCons (eNeg (eC (.int 1))) (aCons (eC (.int 1)) aNil))) (aCons (eTup (aCons (eC (.int 0)) (aCons (eC (.int 1)) aNil))) (aCons (eTup (aCons (eNeg (eC (.int 1))) (aCons (eC (.int 1)) aNil))) aNil)))) (aCons (eTup (aCons (eTup (aCons (eC (.int 1)) (aCons (eC (.int 1)) aNil))) (aCons (eTup (aCons (eC (.int 0)) (aCons (eC (.int 1)) aNil))) (aCons (eTup (aCons (eC (.int 1)) (aCons (eC (.int 1)) aNil))) aNil)))) (aCons (eTup (aCons (eTup (aCons (eNeg (eC (.int 2))) (aCons (eC (.int 1)) aNil))) (aCons (eTup (aCons (eC (.int 0)) (aCons (eC (.int 1)) aNil))) (aCons (eTup (aCons (eC (.int 1)) (aCons (eC (.int 1)) aNil))) aNil)))) (aCons (eTup (aCons (eTup (aCons (eC (.int 0)) (aCons (eC (.int 1)) aNil))) (aCons (eTup (aCons (eC (.int 1)) (aCons (eC (.int 1)) aNil))) aNil))) (aCons (eTup (aCons (eTup (aCons (eC (.int 0)) (aCons (eC (.int 1)) aNil))) (aCons (eTup (aCons (eC (.int 2)) (aCons (eC (.int 1)) aNil))) aNil))) (aCons (eTup aNil) aNil))))))))))))))))
def m_law : Mir := runD 1 9 g_law
/-! ### the walks -/
structure Bs (K : PySem.W.Frag) (mg : Str → Option Value) : Prop where
  c_NOUGHT : Cst ⟨K, mg⟩ "NOUGHT" c_NOUGHT
  c_ONE : Cst ⟨K, mg⟩ "ONE" c_ONE
  c_MOST_NUMBERS : Cst ⟨K, mg⟩ "MOST_NUMBERS" c_MOST_NUMBERS
  c_MOST_DEGREE : Cst ⟨K, mg⟩ "MOST_DEGREE" c_MOST_DEGREE
  c_TIMES : Cst ⟨K, mg⟩ "TIMES" c_TIMES
  c_STEPS : Cst ⟨K, mg⟩ "STEPS" c_STEPS
  m_comb : mg "comb" = some (.builtin "math.comb")
  m_gcd : mg "gcd" = some (.builtin "math.gcd")
  m_isinstance : mg "isinstance" = none
  m_int : mg "int" = none
  m_bool : mg "bool" = none
  m_tuple : mg "tuple" = none
  m_len : mg "len" = none
  m_all : mg "all" = none
  m_max : mg "max" = none
  m_zip : mg "zip" = none
  m_enumerate : mg "enumerate" = none
  m_str : mg "str" = none
  m_range : mg "range" = none
  m_abs : mg "abs" = none
  m_repr : mg "repr" = none
  m_list : mg "list" = none
  m_min : mg "min" = none
abbrev FnP (K : PySem.W.Frag) (x : Str) (st : Stmt) (f : Addr) (fd : FuncData) : Prop := FunD K x x (defArgs st) (defBody st) (defScope st) [] [] f fd
theorem room_repr {k : Nat} {A : Around} (hr : Room k A) : A.units + 101 < cLine := by have := hr.un; omega
theorem room_eq {k : Nat} {A : Around} (hr : Room k A) : A.units + 64 < cLine := by have := hr.un; omega
section
variable {P : Program} {w : World} {K : PySem.W.Frag} {mg : Str → Option Value} {base : Heap}
theorem sc_is_whole : FnScope ["value"] ["value"] (defScope s_is_whole) := ⟨rfl, rfl, rfl, by decide +kernel, rfl, by decide +kernel, by decide +kernel⟩
theorem ok_is_whole {f : Addr} {fd : FuncData} (B : Bs K mg) (F : FnP K "is_whole" s_is_whole f fd) : FnG P w K mg base (L2.CX P w) 1 f fd ["value"] (spD ⟨K, mg⟩ m_is_whole) := by
  have sc := sc_is_whole
  refine fn_mir (k := 0) F sc rfl fun cdv A outer s H E hr hg => ?_
  have hx : Passes (L2.CX P w) (cxOf (L2.CX P w) P w K mg base ["value"] "is_whole" (defScope s_is_whole) f cdv A outer s H E) E := passes_call (takes_of rfl rfl rfl rfl) fun _ _ _ _ h => h
  have hp : PassesOwn (model P w) (cxOf (L2.CX P w) P w K mg base ["value"] "is_whole" (defScope s_is_whole) f cdv A outer s H E).A (cxOf (L2.CX P w) P w K mg base ["value"] "is_whole" (defScope s_is_whole) f cdv A outer s H E).env (cxOf (L2.CX P w) P w K mg base ["value"] "is_whole" (defScope s_is_whole) f cdv A outer s H E).xe := passes_of rfl
  exact (pdss_one (pds_ret (pd_and (pd_callB call_isi cd_isi rfl B.m_isinstance rfl (pda_cons (pd_var (i := 0) rfl (by first | exact Or.inl rfl | exact Or.inr (Or.inl rfl) | exact Or.inr (Or.inr rfl))) (pda_cons (pd_ty (n := "int") rfl B.m_int rfl) pda_nil))) (pd_one (pd_not (pd_callB call_isi cd_isi rfl B.m_isinstance rfl (pda_cons (pd_var (i := 0) rfl (by first | exact Or.inl rfl | exact Or.inr (Or.inl rfl) | exact Or.inr (Or.inr rfl))) (pda_cons (pd_ty (n := "bool") rfl B.m_bool rfl) pda_nil))))))))
theorem sc_is_between : FnScope ["value", "low", "high"] ["value", "low", "high"] (defScope s_is_between) := ⟨rfl, rfl, rfl, by decide +kernel, rfl, by decide +kernel, by decide +kernel⟩
theorem ok_is_between {f : Addr} {fd : FuncData} (B : Bs K mg) (F : FnP K "is_between" s_is_between f fd) (D_is_whole : DefG P w K mg base 1 "is_whole" m_is_whole) : FnG P w K mg base (L2.CX P w) 2 f fd ["value", "low", "high"] (spD ⟨K, mg⟩ m_is_between) := by
  have sc := sc_is_between
  refine fn_mir (k := 1) F sc rfl fun cdv A outer s H E hr hg => ?_
  have hx : Passes (L2.CX P w) (cxOf (L2.CX P w) P w K mg base ["value", "low", "high"] "is_between" (defScope s_is_between) f cdv A outer s H E) E := passes_call (takes_of rfl rfl rfl rfl) fun _ _ _ _ h => h
  have hp : PassesOwn (model P w) (cxOf (L2.CX P w) P w K mg base ["value", "low", "high"] "is_between" (defScope s_is_between) f cdv A outer s H E).A (cxOf (L2.CX P w) P w K mg base ["value", "low", "high"] "is_between" (defScope s_is_between) f cdv A outer s H E).env (cxOf (L2.CX P w) P w K mg base ["value", "low", "high"] "is_between" (defScope s_is_between) f cdv A outer s H E).xe := passes_of rfl
  exact (pdss_one (pds_ret (pd_and (pd_call D_is_whole hg (hr.mono (by decide)) rfl hx (pda_cons (pd_var (i := 0) rfl (by first | exact Or.inl rfl | exact Or.inr (Or.inl rfl) | exact Or.inr (Or.inr rfl))) pda_nil)) (pd_one (pd_chain op_le od_int op_le od_int (pd_var (i := 1) rfl (by first | exact Or.inl rfl | exact Or.inr (Or.inl rfl) | exact Or.inr (Or.inr rfl))) (pd_var (i := 0) rfl (by first | exact Or.inl rfl | exact Or.inr (Or.inl rfl) | exact Or.inr (Or.inr rfl))) (pd_var (i := 2) rfl (by first | exact Or.inl rfl | exact Or.inr (Or.inl rfl) | exact Or.inr (Or.inr rfl))) (by first | rfl | exact nomark _))))))
theorem sc_is_tuple_of : FnScope ["value", "low", "high"] ["value", "low", "high"] (defScope s_is_tuple_of) := ⟨rfl, rfl, rfl, by decide +kernel, rfl, by decide +kernel, by decide +kernel⟩
theorem ok_is_tuple_of {f : Addr} {fd : FuncData} (B : Bs K mg) (F : FnP K "is_tuple_of" s_is_tuple_of f fd) : FnG P w K mg base (L2.CX P w) 1 f fd ["value", "low", "high"] (spD ⟨K, mg⟩ m_is_tuple_of) := by
  have sc := sc_is_tuple_of
  refine fn_mir (k := 0) F sc rfl fun cdv A outer s H E hr hg => ?_
  have hx : Passes (L2.CX P w) (cxOf (L2.CX P w) P w K mg base ["value", "low", "high"] "is_tuple_of" (defScope s_is_tuple_of) f cdv A outer s H E) E := passes_call (takes_of rfl rfl rfl rfl) fun _ _ _ _ h => h
  have hp : PassesOwn (model P w) (cxOf (L2.CX P w) P w K mg base ["value", "low", "high"] "is_tuple_of" (defScope s_is_tuple_of) f cdv A outer s H E).A (cxOf (L2.CX P w) P w K mg base ["value", "low", "high"] "is_tuple_of" (defScope s_is_tuple_of) f cdv A outer s H E).env (cxOf (L2.CX P w) P w K mg base ["value", "low", "high"] "is_tuple_of" (defScope s_is_tuple_of) f cdv A outer s H E).xe := passes_of rfl
  exact (pdss_one (pds_ret (pd_and (pd_callB call_isi cd_isi rfl B.m_isinstance rfl (pda_cons (pd_var (i := 0) rfl (by first | exact Or.inl rfl | exact Or.inr (Or.inl rfl) | exact Or.inr (Or.inr rfl))) (pda_cons (pd_ty (n := "tuple") rfl B.m_tuple rfl) pda_nil))) (pd_one (pd_chain op_le od_int op_le od_int (pd_var (i := 1) rfl (by first | exact Or.inl rfl | exact Or.inr (Or.inl rfl) | exact Or.inr (Or.inr rfl))) (pd_callB cr_lenA cd_len rfl B.m_len rfl (pda_cons (pd_var (i := 0) rfl (by first | exact Or.inl rfl | exact Or.inr (Or.inl rfl) | exact Or.inr (Or.inr rfl))) pda_nil)) (pd_var (i := 2) rfl (by first | exact Or.inl rfl | exact Or.inr (Or.inl rfl) | exact Or.inr (Or.inr rfl))) (by first | rfl | exact nomark _))))))
theorem sc_is_fraction : FnScope ["value"] ["value"] (defScope s_is_fraction) := ⟨rfl, rfl, rfl, by decide +kernel, rfl, by decide +kernel, by decide +kernel⟩
theorem ok_is_fraction {f : Addr} {fd : FuncData} (B : Bs K mg) (F : FnP K "is_fraction" s_is_fraction f fd) (D_is_tuple_of : DefG P w K mg base 1 "is_tuple_of" m_is_tuple_of) (D_is_whole : DefG P w K mg base 1 "is_whole" m_is_whole) : FnG P w K mg base (L2.CX P w) 2 f fd ["value"] (spD ⟨K, mg⟩ m_is_fraction) := by
  have sc := sc_is_fraction
  refine fn_mir (k := 1) F sc rfl fun cdv A outer s H E hr hg => ?_
  have hx : Passes (L2.CX P w) (cxOf (L2.CX P w) P w K mg base ["value"] "is_fraction" (defScope s_is_fraction) f cdv A outer s H E) E := passes_call (takes_of rfl rfl rfl rfl) fun _ _ _ _ h => h
  have hp : PassesOwn (model P w) (cxOf (L2.CX P w) P w K mg base ["value"] "is_fraction" (defScope s_is_fraction) f cdv A outer s H E).A (cxOf (L2.CX P w) P w K mg base ["value"] "is_fraction" (defScope s_is_fraction) f cdv A outer s H E).env (cxOf (L2.CX P w) P w K mg base ["value"] "is_fraction" (defScope s_is_fraction) f cdv A outer s H E).xe := passes_of rfl
  exact (pdss_cons (pds_if (ptd_of_w (pwd_or (ptd_not (ptd_val (pd_call D_is_tuple_of hg (hr.mono (by decide)) rfl hx (pda_cons (pd_var (i := 0) rfl (by first | exact Or.inl rfl | exact Or.inr (Or.inl rfl) | exact Or.inr (Or.inr rfl))) (pda_cons pd_int (pda_cons pd_int pda_nil)))))) (pwd_or (ptd_not (ptd_val (pd_call D_is_whole hg (hr.mono (by decide)) rfl hx (pda_cons (pd_ix (pd_var (i := 0) rfl (by first | exact Or.inl rfl | exact Or.inr (Or.inl rfl) | exact Or.inr (Or.inr rfl))) pd_int (fun _ _ => rfl)) pda_nil)))) (pwd_or1 (ptd_not (ptd_val (pd_call D_is_whole hg (hr.mono (by decide)) rfl hx (pda_cons (pd_ix (pd_var (i := 0) rfl (by first | exact Or.inl rfl | exact Or.inr (Or.inl rfl) | exact Or.inr (Or.inr rfl))) pd_int (fun _ _ => rfl)) pda_nil)))))))) (pdss_one (pds_ret pd_bl)) pdss_nil)
    (pdss_one (pds_ret (pd_and (pd_cmp op_gt od_int (pd_ix (pd_var (i := 0) rfl (by first | exact Or.inl rfl | exact Or.inr (Or.inl rfl) | exact Or.inr (Or.inr rfl))) pd_int (fun _ _ => rfl)) pd_int (by first | rfl | exact nomark _)) (pd_one (pd_cmp (op_eqD (room_eq hr)) od_eq (pd_callFn cr_gcd cd_gcd rfl B.m_gcd (pda_cons (pd_ix (pd_var (i := 0) rfl (by first | exact Or.inl rfl | exact Or.inr (Or.inl rfl) | exact Or.inr (Or.inr rfl))) pd_int (fun _ _ => rfl)) (pda_cons (pd_ix (pd_var (i := 0) rfl (by first | exact Or.inl rfl | exact Or.inr (Or.inl rfl) | exact Or.inr (Or.inr rfl))) pd_int (fun _ _ => rfl)) pda_nil))) pd_int (by first | rfl | exact nomark _)))))))
theorem sc_are_fractions : FnScope ["value", "low", "high", "each"] ["value", "low", "high"] (defScope s_are_fractions) := ⟨rfl, rfl, rfl, by decide +kernel, rfl, by decide +kernel, by decide +kernel⟩
theorem ok_are_fractions {f : Addr} {fd : FuncData} (B : Bs K mg) (F : FnP K "are_fractions" s_are_fractions f fd) (D_is_fraction : DefG P w K mg base 2 "is_fraction" m_is_fraction) (D_is_tuple_of : DefG P w K mg base 1 "is_tuple_of" m_is_tuple_of) : FnG P w K mg base (L2.CX P w) 3 f fd ["value", "low", "high"] (spD ⟨K, mg⟩ m_are_fractions) := by
  have sc := sc_are_fractions
  refine fn_mir (k := 2) F sc rfl fun cdv A outer s H E hr hg => ?_
  have hx : Passes (L2.CX P w) (cxOf (L2.CX P w) P w K mg base ["value", "low", "high", "each"] "are_fractions" (defScope s_are_fractions) f cdv A outer s H E) E := passes_call (takes_of rfl rfl rfl rfl) fun _ _ _ _ h => h
  have hp : PassesOwn (model P w) (cxOf (L2.CX P w) P w K mg base ["value", "low", "high", "each"] "are_fractions" (defScope s_are_fractions) f cdv A outer s H E).A (cxOf (L2.CX P w) P w K mg base ["value", "low", "high", "each"] "are_fractions" (defScope s_are_fractions) f cdv A outer s H E).env (cxOf (L2.CX P w) P w K mg base ["value", "low", "high", "each"] "are_fractions" (defScope s_are_fractions) f cdv A outer s H E).xe := passes_of rfl
  exact (pdss_one (pds_ret (pd_and (pd_call D_is_tuple_of hg (hr.mono (by decide)) rfl hx (pda_cons (pd_var (i := 0) rfl (by first | exact Or.inl rfl | exact Or.inr (Or.inl rfl) | exact Or.inr (Or.inr rfl))) (pda_cons (pd_var (i := 1) rfl (by first | exact Or.inl rfl | exact Or.inr (Or.inl rfl) | exact Or.inr (Or.inr rfl))) (pda_cons (pd_var (i := 2) rfl (by first | exact Or.inl rfl | exact Or.inr (Or.inl rfl) | exact Or.inr (Or.inr rfl))) pda_nil)))) (pd_one (pd_callB (cr_all rfl) cd_all rfl B.m_all rfl (pda_cons (pd_lst (pl_comp (own := [("each", 3)]) rfl rfl sc.nd (id_seq (pd_var (i := 0) rfl (by first | exact Or.inl rfl | exact Or.inr (Or.inl rfl) | exact Or.inr (Or.inr rfl)))) (blkOk_by (by first | rfl | kernel_rfl)) (fun _ _ _ _ _ => (gd_name (i := 3) sc.nd rfl (by first | exact Or.inl rfl | exact Or.inr rfl))) (fun _ _ _ _ _ => ptsd_nil) (fun _ _ _ _ _ => (pd_call D_is_fraction hg (hr.mono (by decide)) rfl passL (pda_cons (pd_var (i := 3) rfl (by first | exact Or.inl rfl | exact Or.inr (Or.inl rfl) | exact Or.inr (Or.inr rfl))) pda_nil))))) pda_nil))))))
theorem sc_fraction : FnScope ["top", "under", "share"] ["top", "under"] (defScope s_fraction) := ⟨rfl, rfl, rfl, by decide +kernel, rfl, by decide +kernel, by decide +kernel⟩
theorem ok_fraction {f : Addr} {fd : FuncData} (B : Bs K mg) (F : FnP K "fraction" s_fraction f fd) : FnG P w K mg base (L2.CX P w) 1 f fd ["top", "under"] (spD ⟨K, mg⟩ m_fraction) := by
  have sc := sc_fraction
  refine fn_mir (k := 0) F sc rfl fun cdv A outer s H E hr hg => ?_
  have hx : Passes (L2.CX P w) (cxOf (L2.CX P w) P w K mg base ["top", "under", "share"] "fraction" (defScope s_fraction) f cdv A outer s H E) E := passes_call (takes_of rfl rfl rfl rfl) fun _ _ _ _ h => h
  have hp : PassesOwn (model P w) (cxOf (L2.CX P w) P w K mg base ["top", "under", "share"] "fraction" (defScope s_fraction) f cdv A outer s H E).A (cxOf (L2.CX P w) P w K mg base ["top", "under", "share"] "fraction" (defScope s_fraction) f cdv A outer s H E).env (cxOf (L2.CX P w) P w K mg base ["top", "under", "share"] "fraction" (defScope s_fraction) f cdv A outer s H E).xe := passes_of rfl
  exact (pdss_cons (pds_set (pd_callFn cr_gcd cd_gcd rfl B.m_gcd (pda_cons (pd_var (i := 0) rfl (by first | exact Or.inl rfl | exact Or.inr (Or.inl rfl) | exact Or.inr (Or.inr rfl))) (pda_cons (pd_var (i := 1) rfl (by first | exact Or.inl rfl | exact Or.inr (Or.inl rfl) | exact Or.inr (Or.inr rfl))) pda_nil))) (gd_name (i := 2) sc.nd rfl (by first | exact Or.inl rfl | exact Or.inr rfl)))
    (pdss_one (pds_ret (pd_if (ptd_cmp op_gt od_int (pd_var (i := 1) rfl (by first | exact Or.inl rfl | exact Or.inr (Or.inl rfl) | exact Or.inr (Or.inr rfl))) pd_int (by first | rfl | exact nomark _)) (pd_tup (pda_cons (pd_bin op_fdivW od_fdiv (pd_var (i := 0) rfl (by first | exact Or.inl rfl | exact Or.inr (Or.inl rfl) | exact Or.inr (Or.inr rfl))) (pd_var (i := 2) rfl (by first | exact Or.inl rfl | exact Or.inr (Or.inl rfl) | exact Or.inr (Or.inr rfl)))) (pda_cons (pd_bin op_fdivW od_fdiv (pd_var (i := 1) rfl (by first | exact Or.inl rfl | exact Or.inr (Or.inl rfl) | exact Or.inr (Or.inr rfl))) (pd_var (i := 2) rfl (by first | exact Or.inl rfl | exact Or.inr (Or.inl rfl) | exact Or.inr (Or.inr rfl)))) pda_nil))) (pd_tup (pda_cons (pd_bin op_fdivW od_fdiv (pd_neg (pd_var (i := 0) rfl (by first | exact Or.inl rfl | exact Or.inr (Or.inl rfl) | exact Or.inr (Or.inr rfl)))) (pd_var (i := 2) rfl (by first | exact Or.inl rfl | exact Or.inr (Or.inl rfl) | exact Or.inr (Or.inr rfl)))) (pda_cons (pd_bin op_fdivW od_fdiv (pd_neg (pd_var (i := 1) rfl (by first | exact Or.inl rfl | exact Or.inr (Or.inl rfl) | exact Or.inr (Or.inr rfl)))) (pd_var (i := 2) rfl (by first | exact Or.inl rfl | exact Or.inr (Or.inl rfl) | exact Or.inr (Or.inr rfl)))) pda_nil)))))))
theorem sc_whole : FnScope ["number"] ["number"] (defScope s_whole) := ⟨rfl, rfl, rfl, by decide +kernel, rfl, by decide +kernel, by decide +kernel⟩
theorem ok_whole {f : Addr} {fd : FuncData} (B : Bs K mg) (F : FnP K "whole" s_whole f fd) : FnG P w K mg base (L2.CX P w) 1 f fd ["number"] (spD ⟨K, mg⟩ m_whole) := by
  have sc := sc_whole
  refine fn_mir (k := 0) F sc rfl fun cdv A outer s H E hr hg => ?_
  have hx : Passes (L2.CX P w) (cxOf (L2.CX P w) P w K mg base ["number"] "whole" (defScope s_whole) f cdv A outer s H E) E := passes_call (takes_of rfl rfl rfl rfl) fun _ _ _ _ h => h
  have hp : PassesOwn (model P w) (cxOf (L2.CX P w) P w K mg base ["number"] "whole" (defScope s_whole) f cdv A outer s H E).A (cxOf (L2.CX P w) P w K mg base ["number"] "whole" (defScope s_whole) f cdv A outer s H E).env (cxOf (L2.CX P w) P w K mg base ["number"] "whole" (defScope s_whole) f cdv A outer s H E).xe := passes_of rfl
  exact (pdss_one (pds_ret (pd_tup (pda_cons (pd_var (i := 0) rfl (by first | exact Or.inl rfl | exact Or.inr (Or.inl rfl) | exact Or.inr (Or.inr rfl))) (pda_cons pd_int pda_nil)))))
theorem sc_plus : FnScope ["one", "two"] ["one", "two"] (defScope s_plus) := ⟨rfl, rfl, rfl, by decide +kernel, rfl, by decide +kernel, by decide +kernel⟩
theorem ok_plus {f : Addr} {fd : FuncData} (B : Bs K mg) (F : FnP K "plus" s_plus f fd) (D_fraction : DefG P w K mg base 1 "fraction" m_fraction) : FnG P w K mg base (L2.CX P w) 2 f fd ["one", "two"] (spD ⟨K, mg⟩ m_plus) := by
  have sc := sc_plus
  refine fn_mir (k := 1) F sc rfl fun cdv A outer s H E hr hg => ?_
  have hx : Passes (L2.CX P w) (cxOf (L2.CX P w) P w K mg base ["one", "two"] "plus" (defScope s_plus) f cdv A outer s H E) E := passes_call (takes_of rfl rfl rfl rfl) fun _ _ _ _ h => h
  have hp : PassesOwn (model P w) (cxOf (L2.CX P w) P w K mg base ["one", "two"] "plus" (defScope s_plus) f cdv A outer s H E).A (cxOf (L2.CX P w) P w K mg base ["one", "two"] "plus" (defScope s_plus) f cdv A outer s H E).env (cxOf (L2.CX P w) P w K mg base ["one", "two"] "plus" (defScope s_plus) f cdv A outer s H E).xe := passes_of rfl
  exact (pdss_one (pds_ret (pd_call D_fraction hg (hr.mono (by decide)) rfl hx (pda_cons (pd_bin op_addA od_add (pd_bin op_mulA od_mul (pd_ix (pd_var (i := 0) rfl (by first | exact Or.inl rfl | exact Or.inr (Or.inl rfl) | exact Or.inr (Or.inr rfl))) pd_int (fun _ _ => rfl)) (pd_ix (pd_var (i := 1) rfl (by first | exact Or.inl rfl | exact Or.inr (Or.inl rfl) | exact Or.inr (Or.inr rfl))) pd_int (fun _ _ => rfl))) (pd_bin op_mulA od_mul (pd_ix (pd_var (i := 1) rfl (by first | exact Or.inl rfl | exact Or.inr (Or.inl rfl) | exact Or.inr (Or.inr rfl))) pd_int (fun _ _ => rfl)) (pd_ix (pd_var (i := 0) rfl (by first | exact Or.inl rfl | exact Or.inr (Or.inl rfl) | exact Or.inr (Or.inr rfl))) pd_int (fun _ _ => rfl)))) (pda_cons (pd_bin op_mulA od_mul (pd_ix (pd_var (i := 0) rfl (by first | exact Or.inl rfl | exact Or.inr (Or.inl rfl) | exact Or.inr (Or.inr rfl))) pd_int (fun _ _ => rfl)) (pd_ix (pd_var (i := 1) rfl (by first | exact Or.inl rfl | exact Or.inr (Or.inl rfl) | exact Or.inr (Or.inr rfl))) pd_int (fun _ _ => rfl))) pda_nil)))))
theorem sc_times : FnScope ["one", "two"] ["one", "two"] (defScope s_times) := ⟨rfl, rfl, rfl, by decide +kernel, rfl, by decide +kernel, by decide +kernel⟩
theorem ok_times {f : Addr} {fd : FuncData} (B : Bs K mg) (F : FnP K "times" s_times f fd) (D_fraction : DefG P w K mg base 1 "fraction" m_fraction) : FnG P w K mg base (L2.CX P w) 2 f fd ["one", "two"] (spD ⟨K, mg⟩ m_times) := by
  have sc := sc_times
  refine fn_mir (k := 1) F sc rfl fun cdv A outer s H E hr hg => ?_
  have hx : Passes (L2.CX P w) (cxOf (L2.CX P w) P w K mg base ["one", "two"] "times" (defScope s_times) f cdv A outer s H E) E := passes_call (takes_of rfl rfl rfl rfl) fun _ _ _ _ h => h
  have hp : PassesOwn (model P w) (cxOf (L2.CX P w) P w K mg base ["one", "two"] "times" (defScope s_times) f cdv A outer s H E).A (cxOf (L2.CX P w) P w K mg base ["one", "two"] "times" (defScope s_times) f cdv A outer s H E).env (cxOf (L2.CX P w) P w K mg base ["one", "two"] "times" (defScope s_times) f cdv A outer s H E).xe := passes_of rfl
  exact (pdss_one (pds_ret (pd_call D_fraction hg (hr.mono (by decide)) rfl hx (pda_cons (pd_bin op_mulA od_mul (pd_ix (pd_var (i := 0) rfl (by first | exact Or.inl rfl | exact Or.inr (Or.inl rfl) | exact Or.inr (Or.inr rfl))) pd_int (fun _ _ => rfl)) (pd_ix (pd_var (i := 1) rfl (by first | exact Or.inl rfl | exact Or.inr (Or.inl rfl) | exact Or.inr (Or.inr rfl))) pd_int (fun _ _ => rfl))) (pda_cons (pd_bin op_mulA od_mul (pd_ix (pd_var (i := 0) rfl (by first | exact Or.inl rfl | exact Or.inr (Or.inl rfl) | exact Or.inr (Or.inr rfl))) pd_int (fun _ _ => rfl)) (pd_ix (pd_var (i := 1) rfl (by first | exact Or.inl rfl | exact Or.inr (Or.inl rfl) | exact Or.inr (Or.inr rfl))) pd_int (fun _ _ => rfl))) pda_nil)))))
theorem sc_is_poly_by : FnScope ["value"] ["value"] (defScope s_is_poly_by) := ⟨rfl, rfl, rfl, by decide +kernel, rfl, by decide +kernel, by decide +kernel⟩
theorem ok_is_poly_by {f : Addr} {fd : FuncData} (B : Bs K mg) (F : FnP K "is_poly_by" s_is_poly_by f fd) (D_are_fractions : DefG P w K mg base 3 "are_fractions" m_are_fractions) : FnG P w K mg base (L2.CX P w) 4 f fd ["value"] (spD ⟨K, mg⟩ m_is_poly_by) := by
  have sc := sc_is_poly_by
  refine fn_mir (k := 3) F sc rfl fun cdv A outer s H E hr hg => ?_
  have hx : Passes (L2.CX P w) (cxOf (L2.CX P w) P w K mg base ["value"] "is_poly_by" (defScope s_is_poly_by) f cdv A outer s H E) E := passes_call (takes_of rfl rfl rfl rfl) fun _ _ _ _ h => h
  have hp : PassesOwn (model P w) (cxOf (L2.CX P w) P w K mg base ["value"] "is_poly_by" (defScope s_is_poly_by) f cdv A outer s H E).A (cxOf (L2.CX P w) P w K mg base ["value"] "is_poly_by" (defScope s_is_poly_by) f cdv A outer s H E).env (cxOf (L2.CX P w) P w K mg base ["value"] "is_poly_by" (defScope s_is_poly_by) f cdv A outer s H E).xe := passes_of rfl
  exact (pdss_one (pds_ret (pd_and (pd_call D_are_fractions hg (hr.mono (by decide)) rfl hx (pda_cons (pd_var (i := 0) rfl (by first | exact Or.inl rfl | exact Or.inr (Or.inl rfl) | exact Or.inr (Or.inr rfl))) (pda_cons pd_int (pda_cons (pd_glob B.c_MOST_NUMBERS rfl) pda_nil)))) (pd_one (pd_or (pd_cmp (op_eqD (room_eq hr)) od_eq (pd_var (i := 0) rfl (by first | exact Or.inl rfl | exact Or.inr (Or.inl rfl) | exact Or.inr (Or.inr rfl))) (pd_tup pda_nil) (by first | rfl | exact nomark _)) (pd_one (pd_cmp (op_neD (room_eq hr)) od_ne (pd_ix (pd_var (i := 0) rfl (by first | exact Or.inl rfl | exact Or.inr (Or.inl rfl) | exact Or.inr (Or.inr rfl))) (pd_neg pd_int) (fun _ _ => rfl)) (pd_glob B.c_NOUGHT rfl) (by first | rfl | exact nomark _))))))))
theorem sc_lessened : FnScope ["numbers", "size"] ["numbers"] (defScope s_lessened) := ⟨rfl, rfl, rfl, by decide +kernel, rfl, by decide +kernel, by decide +kernel⟩
theorem ok_lessened {f : Addr} {fd : FuncData} (B : Bs K mg) (F : FnP K "lessened" s_lessened f fd) : FnG P w K mg base (L2.CX P w) 1 f fd ["numbers"] (spD ⟨K, mg⟩ m_lessened) := by
  have sc := sc_lessened
  refine fn_mir (k := 0) F sc rfl fun cdv A outer s H E hr hg => ?_
  have hx : Passes (L2.CX P w) (cxOf (L2.CX P w) P w K mg base ["numbers", "size"] "lessened" (defScope s_lessened) f cdv A outer s H E) E := passes_call (takes_of rfl rfl rfl rfl) fun _ _ _ _ h => h
  have hp : PassesOwn (model P w) (cxOf (L2.CX P w) P w K mg base ["numbers", "size"] "lessened" (defScope s_lessened) f cdv A outer s H E).A (cxOf (L2.CX P w) P w K mg base ["numbers", "size"] "lessened" (defScope s_lessened) f cdv A outer s H E).env (cxOf (L2.CX P w) P w K mg base ["numbers", "size"] "lessened" (defScope s_lessened) f cdv A outer s H E).xe := passes_of rfl
  exact (pdss_cons (pds_set (pd_callB cr_lenA cd_len rfl B.m_len rfl (pda_cons (pd_var (i := 0) rfl (by first | exact Or.inl rfl | exact Or.inr (Or.inl rfl) | exact Or.inr (Or.inr rfl))) pda_nil)) (gd_name (i := 1) sc.nd rfl (by first | exact Or.inl rfl | exact Or.inr rfl)))
    (pdss_cons (pds_while hp (ptd_of_w (pwd_and (ptd_cmp op_gt od_int (pd_var (i := 1) rfl (by first | exact Or.inl rfl | exact Or.inr (Or.inl rfl) | exact Or.inr (Or.inr rfl))) pd_int (by first | rfl | exact nomark _)) (pwd_and1 (ptd_cmp (op_eqD (room_eq hr)) od_eq (pd_ix (pd_var (i := 0) rfl (by first | exact Or.inl rfl | exact Or.inr (Or.inl rfl) | exact Or.inr (Or.inr rfl))) (pd_bin op_sub od_sub (pd_var (i := 1) rfl (by first | exact Or.inl rfl | exact Or.inr (Or.inl rfl) | exact Or.inr (Or.inr rfl))) pd_int) (fun _ _ => rfl)) (pd_glob B.c_NOUGHT rfl) (by first | rfl | exact nomark _))))) (pdss_one (pds_set (pd_bin op_sub od_sub (pd_var (i := 1) rfl (by first | exact Or.inl rfl | exact Or.inr (Or.inl rfl) | exact Or.inr (Or.inr rfl))) pd_int) (gd_name (i := 1) sc.nd rfl (by first | exact Or.inl rfl | exact Or.inr rfl)))))
    (pdss_one (pds_ret (pd_callTy cr_tupA cd_tup rfl B.m_tuple rfl (pda_cons (pd_sl (pd_var (i := 0) rfl (by first | exact Or.inl rfl | exact Or.inr (Or.inl rfl) | exact Or.inr (Or.inr rfl))) pdo_none (pdo_some (pd_var (i := 1) rfl (by first | exact Or.inl rfl | exact Or.inr (Or.inl rfl) | exact Or.inr (Or.inr rfl))))) pda_nil))))))
theorem sc_padded : FnScope ["poly", "many"] ["poly", "many"] (defScope s_padded) := ⟨rfl, rfl, rfl, by decide +kernel, rfl, by decide +kernel, by decide +kernel⟩
theorem ok_padded {f : Addr} {fd : FuncData} (B : Bs K mg) (F : FnP K "padded" s_padded f fd) : FnG P w K mg base (L2.CX P w) 1 f fd ["poly", "many"] (spD ⟨K, mg⟩ m_padded) := by
  have sc := sc_padded
  refine fn_mir (k := 0) F sc rfl fun cdv A outer s H E hr hg => ?_
  have hx : Passes (L2.CX P w) (cxOf (L2.CX P w) P w K mg base ["poly", "many"] "padded" (defScope s_padded) f cdv A outer s H E) E := passes_call (takes_of rfl rfl rfl rfl) fun _ _ _ _ h => h
  have hp : PassesOwn (model P w) (cxOf (L2.CX P w) P w K mg base ["poly", "many"] "padded" (defScope s_padded) f cdv A outer s H E).A (cxOf (L2.CX P w) P w K mg base ["poly", "many"] "padded" (defScope s_padded) f cdv A outer s H E).env (cxOf (L2.CX P w) P w K mg base ["poly", "many"] "padded" (defScope s_padded) f cdv A outer s H E).xe := passes_of rfl
  exact (pdss_one (pds_ret (pd_bin op_addA od_add (pd_var (i := 0) rfl (by first | exact Or.inl rfl | exact Or.inr (Or.inl rfl) | exact Or.inr (Or.inr rfl))) (pd_bin op_mulA od_mul (pd_tup (pda_cons (pd_glob B.c_NOUGHT rfl) pda_nil)) (pd_bin op_sub od_sub (pd_var (i := 1) rfl (by first | exact Or.inl rfl | exact Or.inr (Or.inl rfl) | exact Or.inr (Or.inr rfl))) (pd_callB cr_lenA cd_len rfl B.m_len rfl (pda_cons (pd_var (i := 0) rfl (by first | exact Or.inl rfl | exact Or.inr (Or.inl rfl) | exact Or.inr (Or.inr rfl))) pda_nil)))))))
theorem sc_scaled : FnScope ["poly", "share", "number"] ["poly", "share"] (defScope s_scaled) := ⟨rfl, rfl, rfl, by decide +kernel, rfl, by decide +kernel, by decide +kernel⟩
theorem ok_scaled {f : Addr} {fd : FuncData} (B : Bs K mg) (F : FnP K "scaled" s_scaled f fd) (D_lessened : DefG P w K mg base 1 "lessened" m_lessened) (D_times : DefG P w K mg base 2 "times" m_times) : FnG P w K mg base (L2.CX P w) 3 f fd ["poly", "share"] (spD ⟨K, mg⟩ m_scaled) := by
  have sc := sc_scaled
  refine fn_mir (k := 2) F sc rfl fun cdv A outer s H E hr hg => ?_
  have hx : Passes (L2.CX P w) (cxOf (L2.CX P w) P w K mg base ["poly", "share", "number"] "scaled" (defScope s_scaled) f cdv A outer s H E) E := passes_call (takes_of rfl rfl rfl rfl) fun _ _ _ _ h => h
  have hp : PassesOwn (model P w) (cxOf (L2.CX P w) P w K mg base ["poly", "share", "number"] "scaled" (defScope s_scaled) f cdv A outer s H E).A (cxOf (L2.CX P w) P w K mg base ["poly", "share", "number"] "scaled" (defScope s_scaled) f cdv A outer s H E).env (cxOf (L2.CX P w) P w K mg base ["poly", "share", "number"] "scaled" (defScope s_scaled) f cdv A outer s H E).xe := passes_of rfl
  exact (pdss_one (pds_ret (pd_call D_lessened hg (hr.mono (by decide)) rfl hx (pda_cons (pd_lst (pl_comp (own := [("number", 2)]) rfl rfl sc.nd (id_seq (pd_var (i := 0) rfl (by first | exact Or.inl rfl | exact Or.inr (Or.inl rfl) | exact Or.inr (Or.inr rfl)))) (blkOk_by (by first | rfl | kernel_rfl)) (fun _ _ _ _ _ => (gd_name (i := 2) sc.nd rfl (by first | exact Or.inl rfl | exact Or.inr rfl))) (fun _ _ _ _ _ => ptsd_nil) (fun _ _ _ _ _ => (pd_call D_times hg (hr.mono (by decide)) rfl passL (pda_cons (pd_var (i := 1) rfl (by first | exact Or.inl rfl | exact Or.inr (Or.inl rfl) | exact Or.inr (Or.inr rfl))) (pda_cons (pd_var (i := 2) rfl (by first | exact Or.inl rfl | exact Or.inr (Or.inl rfl) | exact Or.inr (Or.inr rfl))) pda_nil)))))) pda_nil))))
theorem sc_sum_by : FnScope ["poly", "other", "many", "one", "two"] ["poly", "other"] (defScope s_sum_by) := ⟨rfl, rfl, rfl, by decide +kernel, rfl, by decide +kernel, by decide +kernel⟩
theorem ok_sum_by {f : Addr} {fd : FuncData} (B : Bs K mg) (F : FnP K "sum_by" s_sum_by f fd) (D_lessened : DefG P w K mg base 1 "lessened" m_lessened) (D_padded : DefG P w K mg base 1 "padded" m_padded) (D_plus : DefG P w K mg base 2 "plus" m_plus) : FnG P w K mg base (L2.CX P w) 3 f fd ["poly", "other"] (spD ⟨K, mg⟩ m_sum_by) := by
  have sc := sc_sum_by
  refine fn_mir (k := 2) F sc rfl fun cdv A outer s H E hr hg => ?_
  have hx : Passes (L2.CX P w) (cxOf (L2.CX P w) P w K mg base ["poly", "other", "many", "one", "two"] "sum_by" (defScope s_sum_by) f cdv A outer s H E) E := passes_call (takes_of rfl rfl rfl rfl) fun _ _ _ _ h => h
  have hp : PassesOwn (model P w) (cxOf (L2.CX P w) P w K mg base ["poly", "other", "many", "one", "two"] "sum_by" (defScope s_sum_by) f cdv A outer s H E).A (cxOf (L2.CX P w) P w K mg base ["poly", "other", "many", "one", "two"] "sum_by" (defScope s_sum_by) f cdv A outer s H E).env (cxOf (L2.CX P w) P w K mg base ["poly", "other", "many", "one", "two"] "sum_by" (defScope s_sum_by) f cdv A outer s H E).xe := passes_of rfl
  exact (pdss_cons (pds_set (pd_callB (call_max2 rfl) cd_max rfl B.m_max rfl (pda_cons (pd_callB cr_lenA cd_len rfl B.m_len rfl (pda_cons (pd_var (i := 0) rfl (by first | exact Or.inl rfl | exact Or.inr (Or.inl rfl) | exact Or.inr (Or.inr rfl))) pda_nil)) (pda_cons (pd_callB cr_lenA cd_len rfl B.m_len rfl (pda_cons (pd_var (i := 1) rfl (by first | exact Or.inl rfl | exact Or.inr (Or.inl rfl) | exact Or.inr (Or.inr rfl))) pda_nil)) pda_nil))) (gd_name (i := 2) sc.nd rfl (by first | exact Or.inl rfl | exact Or.inr rfl)))
    (pdss_one (pds_ret (pd_call D_lessened hg (hr.mono (by decide)) rfl hx (pda_cons (pd_lst (pl_comp (own := [("one", 3), ("two", 4)]) rfl rfl sc.nd (id_zip rfl B.m_zip (pda_cons (pd_call D_padded hg (hr.mono (by decide)) rfl hx (pda_cons (pd_var (i := 0) rfl (by first | exact Or.inl rfl | exact Or.inr (Or.inl rfl) | exact Or.inr (Or.inr rfl))) (pda_cons (pd_var (i := 2) rfl (by first | exact Or.inl rfl | exact Or.inr (Or.inl rfl) | exact Or.inr (Or.inr rfl))) pda_nil))) (pda_cons (pd_call D_padded hg (hr.mono (by decide)) rfl hx (pda_cons (pd_var (i := 1) rfl (by first | exact Or.inl rfl | exact Or.inr (Or.inl rfl) | exact Or.inr (Or.inr rfl))) (pda_cons (pd_var (i := 2) rfl (by first | exact Or.inl rfl | exact Or.inr (Or.inl rfl) | exact Or.inr (Or.inr rfl))) pda_nil))) pda_nil))) (blkOk_by (by first | rfl | kernel_rfl)) (fun _ _ _ _ _ => (gd_tup rfl (gds_cons (gd_name (i := 3) sc.nd rfl (by first | exact Or.inl rfl | exact Or.inr rfl)) (gds_cons (gd_name (i := 4) sc.nd rfl (by first | exact Or.inl rfl | exact Or.inr rfl)) gds_nil)))) (fun _ _ _ _ _ => ptsd_nil) (fun _ _ _ _ _ => (pd_call D_plus hg (hr.mono (by decide)) rfl passL (pda_cons (pd_var (i := 3) rfl (by first | exact Or.inl rfl | exact Or.inr (Or.inl rfl) | exact Or.inr (Or.inr rfl))) (pda_cons (pd_var (i := 4) rfl (by first | exact Or.inl rfl | exact Or.inr (Or.inl rfl) | exact Or.inr (Or.inr rfl))) pda_nil)))))) pda_nil)))))
theorem sc_rise_of : FnScope ["poly", "power", "number"] ["poly"] (defScope s_rise_of) := ⟨rfl, rfl, rfl, by decide +kernel, rfl, by decide +kernel, by decide +kernel⟩
theorem ok_rise_of {f : Addr} {fd : FuncData} (B : Bs K mg) (F : FnP K "rise_of" s_rise_of f fd) (D_lessened : DefG P w K mg base 1 "lessened" m_lessened) (D_times : DefG P w K mg base 2 "times" m_times) (D_whole : DefG P w K mg base 1 "whole" m_whole) : FnG P w K mg base (L2.CX P w) 3 f fd ["poly"] (spD ⟨K, mg⟩ m_rise_of) := by
  have sc := sc_rise_of
  refine fn_mir (k := 2) F sc rfl fun cdv A outer s H E hr hg => ?_
  have hx : Passes (L2.CX P w) (cxOf (L2.CX P w) P w K mg base ["poly", "power", "number"] "rise_of" (defScope s_rise_of) f cdv A outer s H E) E := passes_call (takes_of rfl rfl rfl rfl) fun _ _ _ _ h => h
  have hp : PassesOwn (model P w) (cxOf (L2.CX P w) P w K mg base ["poly", "power", "number"] "rise_of" (defScope s_rise_of) f cdv A outer s H E).A (cxOf (L2.CX P w) P w K mg base ["poly", "power", "number"] "rise_of" (defScope s_rise_of) f cdv A outer s H E).env (cxOf (L2.CX P w) P w K mg base ["poly", "power", "number"] "rise_of" (defScope s_rise_of) f cdv A outer s H E).xe := passes_of rfl
  exact (pdss_one (pds_ret (pd_call D_lessened hg (hr.mono (by decide)) rfl hx (pda_cons (pd_sl (pd_lst (pl_comp (own := [("power", 1), ("number", 2)]) rfl rfl sc.nd (id_enum rfl B.m_enumerate (pda_cons (pd_var (i := 0) rfl (by first | exact Or.inl rfl | exact Or.inr (Or.inl rfl) | exact Or.inr (Or.inr rfl))) pda_nil)) (blkOk_by (by first | rfl | kernel_rfl)) (fun _ _ _ _ _ => (gd_tup rfl (gds_cons (gd_name (i := 1) sc.nd rfl (by first | exact Or.inl rfl | exact Or.inr rfl)) (gds_cons (gd_name (i := 2) sc.nd rfl (by first | exact Or.inl rfl | exact Or.inr rfl)) gds_nil)))) (fun _ _ _ _ _ => ptsd_nil) (fun _ _ _ _ _ => (pd_call D_times hg (hr.mono (by decide)) rfl passL (pda_cons (pd_call D_whole hg (hr.mono (by decide)) rfl passL (pda_cons (pd_var (i := 1) rfl (by first | exact Or.inl rfl | exact Or.inr (Or.inl rfl) | exact Or.inr (Or.inr rfl))) pda_nil)) (pda_cons (pd_var (i := 2) rfl (by first | exact Or.inl rfl | exact Or.inr (Or.inl rfl) | exact Or.inr (Or.inr rfl))) pda_nil)))))) (pdo_some pd_int) pdo_none) pda_nil))))
theorem sc_check_poly : FnScope ["value"] ["value"] (defScope s_check_poly) := ⟨rfl, rfl, rfl, by decide +kernel, rfl, by decide +kernel, by decide +kernel⟩
theorem ok_check_poly {f : Addr} {fd : FuncData} (B : Bs K mg) (F : FnP K "check_poly" s_check_poly f fd) (D_is_poly_by : DefG P w K mg base 4 "is_poly_by" m_is_poly_by) : FnG P w K mg base (L2.CX P w) 5 f fd ["value"] (spD ⟨K, mg⟩ m_check_poly) := by
  have sc := sc_check_poly
  refine fn_mir (k := 4) F sc rfl fun cdv A outer s H E hr hg => ?_
  have hx : Passes (L2.CX P w) (cxOf (L2.CX P w) P w K mg base ["value"] "check_poly" (defScope s_check_poly) f cdv A outer s H E) E := passes_call (takes_of rfl rfl rfl rfl) fun _ _ _ _ h => h
  have hp : PassesOwn (model P w) (cxOf (L2.CX P w) P w K mg base ["value"] "check_poly" (defScope s_check_poly) f cdv A outer s H E).A (cxOf (L2.CX P w) P w K mg base ["value"] "check_poly" (defScope s_check_poly) f cdv A outer s H E).env (cxOf (L2.CX P w) P w K mg base ["value"] "check_poly" (defScope s_check_poly) f cdv A outer s H E).xe := passes_of rfl
  exact (pdss_one (pds_if (ptd_not (ptd_val (pd_call D_is_poly_by hg (hr.mono (by decide)) rfl hx (pda_cons (pd_var (i := 0) rfl (by first | exact Or.inl rfl | exact Or.inr (Or.inl rfl) | exact Or.inr (Or.inr rfl))) pda_nil)))) (pdss_one pds_never) pdss_nil))
theorem sc_check_polys : FnScope ["poly", "other"] ["poly", "other"] (defScope s_check_polys) := ⟨rfl, rfl, rfl, by decide +kernel, rfl, by decide +kernel, by decide +kernel⟩
theorem ok_check_polys {f : Addr} {fd : FuncData} (B : Bs K mg) (F : FnP K "check_polys" s_check_polys f fd) (D_check_poly : DefG P w K mg base 5 "check_poly" m_check_poly) : FnG P w K mg base (L2.CX P w) 6 f fd ["poly", "other"] (spD ⟨K, mg⟩ m_check_polys) := by
  have sc := sc_check_polys
  refine fn_mir (k := 5) F sc rfl fun cdv A outer s H E hr hg => ?_
  have hx : Passes (L2.CX P w) (cxOf (L2.CX P w) P w K mg base ["poly", "other"] "check_polys" (defScope s_check_polys) f cdv A outer s H E) E := passes_call (takes_of rfl rfl rfl rfl) fun _ _ _ _ h => h
  have hp : PassesOwn (model P w) (cxOf (L2.CX P w) P w K mg base ["poly", "other"] "check_polys" (defScope s_check_polys) f cdv A outer s H E).A (cxOf (L2.CX P w) P w K mg base ["poly", "other"] "check_polys" (defScope s_check_polys) f cdv A outer s H E).env (cxOf (L2.CX P w) P w K mg base ["poly", "other"] "check_polys" (defScope s_check_polys) f cdv A outer s H E).xe := passes_of rfl
  exact (pdss_cons (pds_expr (pd_call D_check_poly hg (hr.mono (by decide)) rfl hx (pda_cons (pd_var (i := 0) rfl (by first | exact Or.inl rfl | exact Or.inr (Or.inl rfl) | exact Or.inr (Or.inr rfl))) pda_nil)))
    (pdss_one (pds_expr (pd_call D_check_poly hg (hr.mono (by decide)) rfl hx (pda_cons (pd_var (i := 1) rfl (by first | exact Or.inl rfl | exact Or.inr (Or.inl rfl) | exact Or.inr (Or.inr rfl))) pda_nil)))))
theorem sc_check_most : FnScope ["value"] ["value"] (defScope s_check_most) := ⟨rfl, rfl, rfl, by decide +kernel, rfl, by decide +kernel, by decide +kernel⟩
theorem ok_check_most {f : Addr} {fd : FuncData} (B : Bs K mg) (F : FnP K "check_most" s_check_most f fd) (D_is_between : DefG P w K mg base 2 "is_between" m_is_between) : FnG P w K mg base (L2.CX P w) 3 f fd ["value"] (spD ⟨K, mg⟩ m_check_most) := by
  have sc := sc_check_most
  refine fn_mir (k := 2) F sc rfl fun cdv A outer s H E hr hg => ?_
  have hx : Passes (L2.CX P w) (cxOf (L2.CX P w) P w K mg base ["value"] "check_most" (defScope s_check_most) f cdv A outer s H E) E := passes_call (takes_of rfl rfl rfl rfl) fun _ _ _ _ h => h
  have hp : PassesOwn (model P w) (cxOf (L2.CX P w) P w K mg base ["value"] "check_most" (defScope s_check_most) f cdv A outer s H E).A (cxOf (L2.CX P w) P w K mg base ["value"] "check_most" (defScope s_check_most) f cdv A outer s H E).env (cxOf (L2.CX P w) P w K mg base ["value"] "check_most" (defScope s_check_most) f cdv A outer s H E).xe := passes_of rfl
  exact (pdss_one (pds_if (ptd_not (ptd_val (pd_call D_is_between hg (hr.mono (by decide)) rfl hx (pda_cons (pd_var (i := 0) rfl (by first | exact Or.inl rfl | exact Or.inr (Or.inl rfl) | exact Or.inr (Or.inr rfl))) (pda_cons pd_int (pda_cons (pd_glob B.c_MOST_DEGREE rfl) pda_nil)))))) (pdss_one pds_never) pdss_nil))
theorem sc_check_poly_up_to : FnScope ["most", "value"] ["most", "value"] (defScope s_check_poly_up_to) := ⟨rfl, rfl, rfl, by decide +kernel, rfl, by decide +kernel, by decide +kernel⟩
theorem ok_check_poly_up_to {f : Addr} {fd : FuncData} (B : Bs K mg) (F : FnP K "check_poly_up_to" s_check_poly_up_to f fd) (D_is_poly_by : DefG P w K mg base 4 "is_poly_by" m_is_poly_by) : FnG P w K mg base (L2.CX P w) 5 f fd ["most", "value"] (spD ⟨K, mg⟩ m_check_poly_up_to) := by
  have sc := sc_check_poly_up_to
  refine fn_mir (k := 4) F sc rfl fun cdv A outer s H E hr hg => ?_
  have hx : Passes (L2.CX P w) (cxOf (L2.CX P w) P w K mg base ["most", "value"] "check_poly_up_to" (defScope s_check_poly_up_to) f cdv A outer s H E) E := passes_call (takes_of rfl rfl rfl rfl) fun _ _ _ _ h => h
  have hp : PassesOwn (model P w) (cxOf (L2.CX P w) P w K mg base ["most", "value"] "check_poly_up_to" (defScope s_check_poly_up_to) f cdv A outer s H E).A (cxOf (L2.CX P w) P w K mg base ["most", "value"] "check_poly_up_to" (defScope s_check_poly_up_to) f cdv A outer s H E).env (cxOf (L2.CX P w) P w K mg base ["most", "value"] "check_poly_up_to" (defScope s_check_poly_up_to) f cdv A outer s H E).xe := passes_of rfl
  exact (pdss_one (pds_if (ptd_of_w (pwd_or (ptd_not (ptd_val (pd_call D_is_poly_by hg (hr.mono (by decide)) rfl hx (pda_cons (pd_var (i := 1) rfl (by first | exact Or.inl rfl | exact Or.inr (Or.inl rfl) | exact Or.inr (Or.inr rfl))) pda_nil)))) (pwd_or1 (ptd_cmp op_gt od_int (pd_callB cr_lenA cd_len rfl B.m_len rfl (pda_cons (pd_var (i := 1) rfl (by first | exact Or.inl rfl | exact Or.inr (Or.inl rfl) | exact Or.inr (Or.inr rfl))) pda_nil)) (pd_bin op_addA od_add (pd_var (i := 0) rfl (by first | exact Or.inl rfl | exact Or.inr (Or.inl rfl) | exact Or.inr (Or.inr rfl))) pd_int) (by first | rfl | exact nomark _))))) (pdss_one pds_never) pdss_nil))
theorem sc_is_making_by : FnScope ["most", "value"] ["most", "value"] (defScope s_is_making_by) := ⟨rfl, rfl, rfl, by decide +kernel, rfl, by decide +kernel, by decide +kernel⟩
theorem ok_is_making_by {f : Addr} {fd : FuncData} (B : Bs K mg) (F : FnP K "is_making_by" s_is_making_by f fd) (D_are_fractions : DefG P w K mg base 3 "are_fractions" m_are_fractions) (D_is_tuple_of : DefG P w K mg base 1 "is_tuple_of" m_is_tuple_of) : FnG P w K mg base (L2.CX P w) 4 f fd ["most", "value"] (spD ⟨K, mg⟩ m_is_making_by) := by
  have sc := sc_is_making_by
  refine fn_mir (k := 3) F sc rfl fun cdv A outer s H E hr hg => ?_
  have hx : Passes (L2.CX P w) (cxOf (L2.CX P w) P w K mg base ["most", "value"] "is_making_by" (defScope s_is_making_by) f cdv A outer s H E) E := passes_call (takes_of rfl rfl rfl rfl) fun _ _ _ _ h => h
  have hp : PassesOwn (model P w) (cxOf (L2.CX P w) P w K mg base ["most", "value"] "is_making_by" (defScope s_is_making_by) f cdv A outer s H E).A (cxOf (L2.CX P w) P w K mg base ["most", "value"] "is_making_by" (defScope s_is_making_by) f cdv A outer s H E).env (cxOf (L2.CX P w) P w K mg base ["most", "value"] "is_making_by" (defScope s_is_making_by) f cdv A outer s H E).xe := passes_of rfl
  exact (pdss_cons (pds_if (ptd_of_w (pwd_or (ptd_not (ptd_val (pd_call D_is_tuple_of hg (hr.mono (by decide)) rfl hx (pda_cons (pd_var (i := 1) rfl (by first | exact Or.inl rfl | exact Or.inr (Or.inl rfl) | exact Or.inr (Or.inr rfl))) (pda_cons pd_int (pda_cons pd_int pda_nil)))))) (pwd_or (ptd_not (ptd_val (pd_callB call_isi cd_isi rfl B.m_isinstance rfl (pda_cons (pd_ix (pd_var (i := 1) rfl (by first | exact Or.inl rfl | exact Or.inr (Or.inl rfl) | exact Or.inr (Or.inr rfl))) pd_int (fun _ _ => rfl)) (pda_cons (pd_ty (n := "str") rfl B.m_str rfl) pda_nil))))) (pwd_or1 (ptd_cmp op_notIn_seq od_in (pd_ix (pd_var (i := 1) rfl (by first | exact Or.inl rfl | exact Or.inr (Or.inl rfl) | exact Or.inr (Or.inr rfl))) pd_int (fun _ _ => rfl)) (pd_tup (pda_cons (pd_glob B.c_TIMES rfl) (pda_cons (pd_glob B.c_STEPS rfl) pda_nil))) (by first | rfl | exact nomark _)))))) (pdss_one (pds_ret pd_bl)) pdss_nil)
    (pdss_one (pds_ret (pd_call D_are_fractions hg (hr.mono (by decide)) rfl hx (pda_cons (pd_ix (pd_var (i := 1) rfl (by first | exact Or.inl rfl | exact Or.inr (Or.inl rfl) | exact Or.inr (Or.inr rfl))) pd_int (fun _ _ => rfl)) (pda_cons (pd_bin op_addA od_add (pd_var (i := 0) rfl (by first | exact Or.inl rfl | exact Or.inr (Or.inl rfl) | exact Or.inr (Or.inr rfl))) pd_int) (pda_cons (pd_bin op_addA od_add (pd_var (i := 0) rfl (by first | exact Or.inl rfl | exact Or.inr (Or.inl rfl) | exact Or.inr (Or.inr rfl))) pd_int) pda_nil)))))))
theorem sc_made_by : FnScope ["making", "poly", "sort", "numbers", "number", "own", "found", "left"] ["making", "poly"] (defScope s_made_by) := ⟨rfl, rfl, rfl, by decide +kernel, rfl, by decide +kernel, by decide +kernel⟩
theorem ok_made_by {f : Addr} {fd : FuncData} (B : Bs K mg) (F : FnP K "made_by" s_made_by f fd) (D_lessened : DefG P w K mg base 1 "lessened" m_lessened) (D_rise_of : DefG P w K mg base 3 "rise_of" m_rise_of) (D_scaled : DefG P w K mg base 3 "scaled" m_scaled) (D_sum_by : DefG P w K mg base 3 "sum_by" m_sum_by) (D_times : DefG P w K mg base 2 "times" m_times) : FnG P w K mg base (L2.CX P w) 4 f fd ["making", "poly"] (spD ⟨K, mg⟩ m_made_by) := by
  have sc := sc_made_by
  refine fn_mir (k := 3) F sc rfl fun cdv A outer s H E hr hg => ?_
  have hx : Passes (L2.CX P w) (cxOf (L2.CX P w) P w K mg base ["making", "poly", "sort", "numbers", "number", "own", "found", "left"] "made_by" (defScope s_made_by) f cdv A outer s H E) E := passes_call (takes_of rfl rfl rfl rfl) fun _ _ _ _ h => h
  have hp : PassesOwn (model P w) (cxOf (L2.CX P w) P w K mg base ["making", "poly", "sort", "numbers", "number", "own", "found", "left"] "made_by" (defScope s_made_by) f cdv A outer s H E).A (cxOf (L2.CX P w) P w K mg base ["making", "poly", "sort", "numbers", "number", "own", "found", "left"] "made_by" (defScope s_made_by) f cdv A outer s H E).env (cxOf (L2.CX P w) P w K mg base ["making", "poly", "sort", "numbers", "number", "own", "found", "left"] "made_by" (defScope s_made_by) f cdv A outer s H E).xe := passes_of rfl
  exact (pdss_cons (pds_set (pd_var (i := 0) rfl (by first | exact Or.inl rfl | exact Or.inr (Or.inl rfl) | exact Or.inr (Or.inr rfl))) (gd_tup rfl (gds_cons (gd_name (i := 2) sc.nd rfl (by first | exact Or.inl rfl | exact Or.inr rfl)) (gds_cons (gd_name (i := 3) sc.nd rfl (by first | exact Or.inl rfl | exact Or.inr rfl)) gds_nil))))
    (pdss_cons (pds_if (ptd_cmp (op_eqD (room_eq hr)) od_eq (pd_var (i := 2) rfl (by first | exact Or.inl rfl | exact Or.inr (Or.inl rfl) | exact Or.inr (Or.inr rfl))) (pd_glob B.c_TIMES rfl) (by first | rfl | exact nomark _)) (pdss_one (pds_ret (pd_call D_lessened hg (hr.mono (by decide)) rfl hx (pda_cons (pd_lst (pl_comp (own := [("number", 4), ("own", 5)]) rfl rfl sc.nd (id_zip rfl B.m_zip (pda_cons (pd_var (i := 3) rfl (by first | exact Or.inl rfl | exact Or.inr (Or.inl rfl) | exact Or.inr (Or.inr rfl))) (pda_cons (pd_var (i := 1) rfl (by first | exact Or.inl rfl | exact Or.inr (Or.inl rfl) | exact Or.inr (Or.inr rfl))) pda_nil))) (blkOk_by (by first | rfl | kernel_rfl)) (fun _ _ _ _ _ => (gd_tup rfl (gds_cons (gd_name (i := 4) sc.nd rfl (by first | exact Or.inl rfl | exact Or.inr rfl)) (gds_cons (gd_name (i := 5) sc.nd rfl (by first | exact Or.inl rfl | exact Or.inr rfl)) gds_nil)))) (fun _ _ _ _ _ => ptsd_nil) (fun _ _ _ _ _ => (pd_call D_times hg (hr.mono (by decide)) rfl passL (pda_cons (pd_var (i := 4) rfl (by first | exact Or.inl rfl | exact Or.inr (Or.inl rfl) | exact Or.inr (Or.inr rfl))) (pda_cons (pd_var (i := 5) rfl (by first | exact Or.inl rfl | exact Or.inr (Or.inl rfl) | exact Or.inr (Or.inr rfl))) pda_nil)))))) pda_nil)))) pdss_nil)
    (pdss_cons (pds_par2 rfl sc.nd rfl rfl (by decide) rfl rfl (pd_tup pda_nil) (pd_var (i := 1) rfl (by first | exact Or.inl rfl | exact Or.inr (Or.inl rfl) | exact Or.inr (Or.inr rfl))) rfl)
    (pdss_cons (pds_for hp rfl (id_seq (pd_var (i := 3) rfl (by first | exact Or.inl rfl | exact Or.inr (Or.inl rfl) | exact Or.inr (Or.inr rfl)))) (gd_name (i := 4) sc.nd rfl (by first | exact Or.inl rfl | exact Or.inr rfl)) (pdss_one (pds_par2 rfl sc.nd rfl rfl (by decide) rfl rfl (pd_call D_sum_by hg (hr.mono (by decide)) rfl hx (pda_cons (pd_var (i := 6) rfl (by first | exact Or.inl rfl | exact Or.inr (Or.inl rfl) | exact Or.inr (Or.inr rfl))) (pda_cons (pd_call D_scaled hg (hr.mono (by decide)) rfl hx (pda_cons (pd_var (i := 7) rfl (by first | exact Or.inl rfl | exact Or.inr (Or.inl rfl) | exact Or.inr (Or.inr rfl))) (pda_cons (pd_var (i := 4) rfl (by first | exact Or.inl rfl | exact Or.inr (Or.inl rfl) | exact Or.inr (Or.inr rfl))) pda_nil))) pda_nil))) (pd_call D_rise_of hg (hr.mono (by decide)) rfl hx (pda_cons (pd_var (i := 7) rfl (by first | exact Or.inl rfl | exact Or.inr (Or.inl rfl) | exact Or.inr (Or.inr rfl))) pda_nil)) rfl)))
    (pdss_one (pds_ret (pd_var (i := 6) rfl (by first | exact Or.inl rfl | exact Or.inr (Or.inl rfl) | exact Or.inr (Or.inr rfl)))))))))
theorem sc_power_poly : FnScope ["most"] ["most"] (defScope s_power_poly) := ⟨rfl, rfl, rfl, by decide +kernel, rfl, by decide +kernel, by decide +kernel⟩
theorem ok_power_poly {f : Addr} {fd : FuncData} (B : Bs K mg) (F : FnP K "power_poly" s_power_poly f fd) : FnG P w K mg base (L2.CX P w) 1 f fd ["most"] (spD ⟨K, mg⟩ m_power_poly) := by
  have sc := sc_power_poly
  refine fn_mir (k := 0) F sc rfl fun cdv A outer s H E hr hg => ?_
  have hx : Passes (L2.CX P w) (cxOf (L2.CX P w) P w K mg base ["most"] "power_poly" (defScope s_power_poly) f cdv A outer s H E) E := passes_call (takes_of rfl rfl rfl rfl) fun _ _ _ _ h => h
  have hp : PassesOwn (model P w) (cxOf (L2.CX P w) P w K mg base ["most"] "power_poly" (defScope s_power_poly) f cdv A outer s H E).A (cxOf (L2.CX P w) P w K mg base ["most"] "power_poly" (defScope s_power_poly) f cdv A outer s H E).env (cxOf (L2.CX P w) P w K mg base ["most"] "power_poly" (defScope s_power_poly) f cdv A outer s H E).xe := passes_of rfl
  exact (pdss_one (pds_ret (pd_bin op_addA od_add (pd_bin op_mulA od_mul (pd_tup (pda_cons (pd_glob B.c_NOUGHT rfl) pda_nil)) (pd_var (i := 0) rfl (by first | exact Or.inl rfl | exact Or.inr (Or.inl rfl) | exact Or.inr (Or.inr rfl)))) (pd_tup (pda_cons (pd_glob B.c_ONE rfl) pda_nil)))))
theorem sc_symbol_by : FnScope ["making", "sort", "numbers", "most", "power"] ["making"] (defScope s_symbol_by) := ⟨rfl, rfl, rfl, by decide +kernel, rfl, by decide +kernel, by decide +kernel⟩
theorem ok_symbol_by {f : Addr} {fd : FuncData} (B : Bs K mg) (F : FnP K "symbol_by" s_symbol_by f fd) (D_made_by : DefG P w K mg base 4 "made_by" m_made_by) (D_power_poly : DefG P w K mg base 1 "power_poly" m_power_poly) (D_whole : DefG P w K mg base 1 "whole" m_whole) : FnG P w K mg base (L2.CX P w) 5 f fd ["making"] (spD ⟨K, mg⟩ m_symbol_by) := by
  have sc := sc_symbol_by
  refine fn_mir (k := 4) F sc rfl fun cdv A outer s H E hr hg => ?_
  have hx : Passes (L2.CX P w) (cxOf (L2.CX P w) P w K mg base ["making", "sort", "numbers", "most", "power"] "symbol_by" (defScope s_symbol_by) f cdv A outer s H E) E := passes_call (takes_of rfl rfl rfl rfl) fun _ _ _ _ h => h
  have hp : PassesOwn (model P w) (cxOf (L2.CX P w) P w K mg base ["making", "sort", "numbers", "most", "power"] "symbol_by" (defScope s_symbol_by) f cdv A outer s H E).A (cxOf (L2.CX P w) P w K mg base ["making", "sort", "numbers", "most", "power"] "symbol_by" (defScope s_symbol_by) f cdv A outer s H E).env (cxOf (L2.CX P w) P w K mg base ["making", "sort", "numbers", "most", "power"] "symbol_by" (defScope s_symbol_by) f cdv A outer s H E).xe := passes_of rfl
  exact (pdss_cons (pds_set (pd_var (i := 0) rfl (by first | exact Or.inl rfl | exact Or.inr (Or.inl rfl) | exact Or.inr (Or.inr rfl))) (gd_tup rfl (gds_cons (gd_name (i := 1) sc.nd rfl (by first | exact Or.inl rfl | exact Or.inr rfl)) (gds_cons (gd_name (i := 2) sc.nd rfl (by first | exact Or.inl rfl | exact Or.inr rfl)) gds_nil))))
    (pdss_cons (pds_set (pd_bin op_sub od_sub (pd_callB cr_lenA cd_len rfl B.m_len rfl (pda_cons (pd_var (i := 2) rfl (by first | exact Or.inl rfl | exact Or.inr (Or.inl rfl) | exact Or.inr (Or.inr rfl))) pda_nil)) pd_int) (gd_name (i := 3) sc.nd rfl (by first | exact Or.inl rfl | exact Or.inr rfl)))
    (pdss_cons (pds_if (ptd_cmp (op_eqD (room_eq hr)) od_eq (pd_var (i := 1) rfl (by first | exact Or.inl rfl | exact Or.inr (Or.inl rfl) | exact Or.inr (Or.inr rfl))) (pd_glob B.c_STEPS rfl) (by first | rfl | exact nomark _)) (pdss_one (pds_ret (pd_call D_made_by hg (hr.mono (by decide)) rfl hx (pda_cons (pd_var (i := 0) rfl (by first | exact Or.inl rfl | exact Or.inr (Or.inl rfl) | exact Or.inr (Or.inr rfl))) (pda_cons (pd_call D_power_poly hg (hr.mono (by decide)) rfl hx (pda_cons (pd_var (i := 3) rfl (by first | exact Or.inl rfl | exact Or.inr (Or.inl rfl) | exact Or.inr (Or.inr rfl))) pda_nil)) pda_nil))))) pdss_nil)
    (pdss_one (pds_ret (pd_call D_made_by hg (hr.mono (by decide)) rfl hx (pda_cons (pd_var (i := 0) rfl (by first | exact Or.inl rfl | exact Or.inr (Or.inl rfl) | exact Or.inr (Or.inr rfl))) (pda_cons (pd_callTy cr_tupA cd_tup rfl B.m_tuple rfl (pda_cons (pd_lst (pl_comp (own := [("power", 4)]) rfl rfl sc.nd (id_range1 rfl B.m_range (pda_cons (pd_bin op_addA od_add (pd_var (i := 3) rfl (by first | exact Or.inl rfl | exact Or.inr (Or.inl rfl) | exact Or.inr (Or.inr rfl))) pd_int) pda_nil)) (blkOk_by (by first | rfl | kernel_rfl)) (fun _ _ _ _ _ => (gd_name (i := 4) sc.nd rfl (by first | exact Or.inl rfl | exact Or.inr rfl))) (fun _ _ _ _ _ => ptsd_nil) (fun _ _ _ _ _ => (pd_call D_whole hg (hr.mono (by decide)) rfl passL (pda_cons (pd_callFn cr_comb cd_comb rfl B.m_comb (pda_cons (pd_var (i := 3) rfl (by first | exact Or.inl rfl | exact Or.inr (Or.inl rfl) | exact Or.inr (Or.inr rfl))) (pda_cons (pd_var (i := 4) rfl (by first | exact Or.inl rfl | exact Or.inr (Or.inl rfl) | exact Or.inr (Or.inr rfl))) pda_nil))) pda_nil))))) pda_nil)) pda_nil))))))))
theorem sc_is_making : FnScope ["most", "value"] ["most", "value"] (defScope s_is_making) := ⟨rfl, rfl, rfl, by decide +kernel, rfl, by decide +kernel, by decide +kernel⟩
theorem ok_is_making {f : Addr} {fd : FuncData} (B : Bs K mg) (F : FnP K "is_making" s_is_making f fd) (D_check_most : DefG P w K mg base 3 "check_most" m_check_most) (D_is_making_by : DefG P w K mg base 4 "is_making_by" m_is_making_by) : FnG P w K mg base (L2.CX P w) 5 f fd ["most", "value"] (spD ⟨K, mg⟩ m_is_making) := by
  have sc := sc_is_making
  refine fn_mir (k := 4) F sc rfl fun cdv A outer s H E hr hg => ?_
  have hx : Passes (L2.CX P w) (cxOf (L2.CX P w) P w K mg base ["most", "value"] "is_making" (defScope s_is_making) f cdv A outer s H E) E := passes_call (takes_of rfl rfl rfl rfl) fun _ _ _ _ h => h
  have hp : PassesOwn (model P w) (cxOf (L2.CX P w) P w K mg base ["most", "value"] "is_making" (defScope s_is_making) f cdv A outer s H E).A (cxOf (L2.CX P w) P w K mg base ["most", "value"] "is_making" (defScope s_is_making) f cdv A outer s H E).env (cxOf (L2.CX P w) P w K mg base ["most", "value"] "is_making" (defScope s_is_making) f cdv A outer s H E).xe := passes_of rfl
  exact (pdss_cons (pds_expr (pd_call D_check_most hg (hr.mono (by decide)) rfl hx (pda_cons (pd_var (i := 0) rfl (by first | exact Or.inl rfl | exact Or.inr (Or.inl rfl) | exact Or.inr (Or.inr rfl))) pda_nil)))
    (pdss_one (pds_ret (pd_call D_is_making_by hg (hr.mono (by decide)) rfl hx (pda_cons (pd_var (i := 0) rfl (by first | exact Or.inl rfl | exact Or.inr (Or.inl rfl) | exact Or.inr (Or.inr rfl))) (pda_cons (pd_var (i := 1) rfl (by first | exact Or.inl rfl | exact Or.inr (Or.inl rfl) | exact Or.inr (Or.inr rfl))) pda_nil))))))
theorem sc_check_making : FnScope ["most", "value"] ["most", "value"] (defScope s_check_making) := ⟨rfl, rfl, rfl, by decide +kernel, rfl, by decide +kernel, by decide +kernel⟩
theorem ok_check_making {f : Addr} {fd : FuncData} (B : Bs K mg) (F : FnP K "check_making" s_check_making f fd) (D_check_most : DefG P w K mg base 3 "check_most" m_check_most) (D_is_making_by : DefG P w K mg base 4 "is_making_by" m_is_making_by) : FnG P w K mg base (L2.CX P w) 5 f fd ["most", "value"] (spD ⟨K, mg⟩ m_check_making) := by
  have sc := sc_check_making
  refine fn_mir (k := 4) F sc rfl fun cdv A outer s H E hr hg => ?_
  have hx : Passes (L2.CX P w) (cxOf (L2.CX P w) P w K mg base ["most", "value"] "check_making" (defScope s_check_making) f cdv A outer s H E) E := passes_call (takes_of rfl rfl rfl rfl) fun _ _ _ _ h => h
  have hp : PassesOwn (model P w) (cxOf (L2.CX P w) P w K mg base ["most", "value"] "check_making" (defScope s_check_making) f cdv A outer s H E).A (cxOf (L2.CX P w) P w K mg base ["most", "value"] "check_making" (defScope s_check_making) f cdv A outer s H E).env (cxOf (L2.CX P w) P w K mg base ["most", "value"] "check_making" (defScope s_check_making) f cdv A outer s H E).xe := passes_of rfl
  exact (pdss_cons (pds_expr (pd_call D_check_most hg (hr.mono (by decide)) rfl hx (pda_cons (pd_var (i := 0) rfl (by first | exact Or.inl rfl | exact Or.inr (Or.inl rfl) | exact Or.inr (Or.inr rfl))) pda_nil)))
    (pdss_one (pds_if (ptd_not (ptd_val (pd_call D_is_making_by hg (hr.mono (by decide)) rfl hx (pda_cons (pd_var (i := 0) rfl (by first | exact Or.inl rfl | exact Or.inr (Or.inl rfl) | exact Or.inr (Or.inr rfl))) (pda_cons (pd_var (i := 1) rfl (by first | exact Or.inl rfl | exact Or.inr (Or.inl rfl) | exact Or.inr (Or.inr rfl))) pda_nil))))) (pdss_one pds_never) pdss_nil)))
theorem sc_made : FnScope ["most", "making", "poly"] ["most", "making", "poly"] (defScope s_made) := ⟨rfl, rfl, rfl, by decide +kernel, rfl, by decide +kernel, by decide +kernel⟩
theorem ok_made {f : Addr} {fd : FuncData} (B : Bs K mg) (F : FnP K "made" s_made f fd) (D_check_making : DefG P w K mg base 5 "check_making" m_check_making) (D_check_poly_up_to : DefG P w K mg base 5 "check_poly_up_to" m_check_poly_up_to) (D_made_by : DefG P w K mg base 4 "made_by" m_made_by) : FnG P w K mg base (L2.CX P w) 6 f fd ["most", "making", "poly"] (spD ⟨K, mg⟩ m_made) := by
  have sc := sc_made
  refine fn_mir (k := 5) F sc rfl fun cdv A outer s H E hr hg => ?_
  have hx : Passes (L2.CX P w) (cxOf (L2.CX P w) P w K mg base ["most", "making", "poly"] "made" (defScope s_made) f cdv A outer s H E) E := passes_call (takes_of rfl rfl rfl rfl) fun _ _ _ _ h => h
  have hp : PassesOwn (model P w) (cxOf (L2.CX P w) P w K mg base ["most", "making", "poly"] "made" (defScope s_made) f cdv A outer s H E).A (cxOf (L2.CX P w) P w K mg base ["most", "making", "poly"] "made" (defScope s_made) f cdv A outer s H E).env (cxOf (L2.CX P w) P w K mg base ["most", "making", "poly"] "made" (defScope s_made) f cdv A outer s H E).xe := passes_of rfl
  exact (pdss_cons (pds_expr (pd_call D_check_making hg (hr.mono (by decide)) rfl hx (pda_cons (pd_var (i := 0) rfl (by first | exact Or.inl rfl | exact Or.inr (Or.inl rfl) | exact Or.inr (Or.inr rfl))) (pda_cons (pd_var (i := 1) rfl (by first | exact Or.inl rfl | exact Or.inr (Or.inl rfl) | exact Or.inr (Or.inr rfl))) pda_nil))))
    (pdss_cons (pds_expr (pd_call D_check_poly_up_to hg (hr.mono (by decide)) rfl hx (pda_cons (pd_var (i := 0) rfl (by first | exact Or.inl rfl | exact Or.inr (Or.inl rfl) | exact Or.inr (Or.inr rfl))) (pda_cons (pd_var (i := 2) rfl (by first | exact Or.inl rfl | exact Or.inr (Or.inl rfl) | exact Or.inr (Or.inr rfl))) pda_nil))))
    (pdss_one (pds_ret (pd_call D_made_by hg (hr.mono (by decide)) rfl hx (pda_cons (pd_var (i := 1) rfl (by first | exact Or.inl rfl | exact Or.inr (Or.inl rfl) | exact Or.inr (Or.inr rfl))) (pda_cons (pd_var (i := 2) rfl (by first | exact Or.inl rfl | exact Or.inr (Or.inl rfl) | exact Or.inr (Or.inr rfl))) pda_nil)))))))
theorem sc_symbol : FnScope ["most", "making"] ["most", "making"] (defScope s_symbol) := ⟨rfl, rfl, rfl, by decide +kernel, rfl, by decide +kernel, by decide +kernel⟩
theorem ok_symbol {f : Addr} {fd : FuncData} (B : Bs K mg) (F : FnP K "symbol" s_symbol f fd) (D_check_making : DefG P w K mg base 5 "check_making" m_check_making) (D_symbol_by : DefG P w K mg base 5 "symbol_by" m_symbol_by) : FnG P w K mg base (L2.CX P w) 6 f fd ["most", "making"] (spD ⟨K, mg⟩ m_symbol) := by
  have sc := sc_symbol
  refine fn_mir (k := 5) F sc rfl fun cdv A outer s H E hr hg => ?_
  have hx : Passes (L2.CX P w) (cxOf (L2.CX P w) P w K mg base ["most", "making"] "symbol" (defScope s_symbol) f cdv A outer s H E) E := passes_call (takes_of rfl rfl rfl rfl) fun _ _ _ _ h => h
  have hp : PassesOwn (model P w) (cxOf (L2.CX P w) P w K mg base ["most", "making"] "symbol" (defScope s_symbol) f cdv A outer s H E).A (cxOf (L2.CX P w) P w K mg base ["most", "making"] "symbol" (defScope s_symbol) f cdv A outer s H E).env (cxOf (L2.CX P w) P w K mg base ["most", "making"] "symbol" (defScope s_symbol) f cdv A outer s H E).xe := passes_of rfl
  exact (pdss_cons (pds_expr (pd_call D_check_making hg (hr.mono (by decide)) rfl hx (pda_cons (pd_var (i := 0) rfl (by first | exact Or.inl rfl | exact Or.inr (Or.inl rfl) | exact Or.inr (Or.inr rfl))) (pda_cons (pd_var (i := 1) rfl (by first | exact Or.inl rfl | exact Or.inr (Or.inl rfl) | exact Or.inr (Or.inr rfl))) pda_nil))))
    (pdss_one (pds_ret (pd_call D_symbol_by hg (hr.mono (by decide)) rfl hx (pda_cons (pd_var (i := 1) rfl (by first | exact Or.inl rfl | exact Or.inr (Or.inl rfl) | exact Or.inr (Or.inr rfl))) pda_nil)))))
theorem sc_poly_sum : FnScope ["poly", "other_poly"] ["poly", "other_poly"] (defScope s_poly_sum) := ⟨rfl, rfl, rfl, by decide +kernel, rfl, by decide +kernel, by decide +kernel⟩
theorem ok_poly_sum {f : Addr} {fd : FuncData} (B : Bs K mg) (F : FnP K "poly_sum" s_poly_sum f fd) (D_check_polys : DefG P w K mg base 6 "check_polys" m_check_polys) (D_sum_by : DefG P w K mg base 3 "sum_by" m_sum_by) : FnG P w K mg base (L2.CX P w) 7 f fd ["poly", "other_poly"] (spD ⟨K, mg⟩ m_poly_sum) := by
  have sc := sc_poly_sum
  refine fn_mir (k := 6) F sc rfl fun cdv A outer s H E hr hg => ?_
  have hx : Passes (L2.CX P w) (cxOf (L2.CX P w) P w K mg base ["poly", "other_poly"] "poly_sum" (defScope s_poly_sum) f cdv A outer s H E) E := passes_call (takes_of rfl rfl rfl rfl) fun _ _ _ _ h => h
  have hp : PassesOwn (model P w) (cxOf (L2.CX P w) P w K mg base ["poly", "other_poly"] "poly_sum" (defScope s_poly_sum) f cdv A outer s H E).A (cxOf (L2.CX P w) P w K mg base ["poly", "other_poly"] "poly_sum" (defScope s_poly_sum) f cdv A outer s H E).env (cxOf (L2.CX P w) P w K mg base ["poly", "other_poly"] "poly_sum" (defScope s_poly_sum) f cdv A outer s H E).xe := passes_of rfl
  exact (pdss_cons (pds_expr (pd_call D_check_polys hg (hr.mono (by decide)) rfl hx (pda_cons (pd_var (i := 0) rfl (by first | exact Or.inl rfl | exact Or.inr (Or.inl rfl) | exact Or.inr (Or.inr rfl))) (pda_cons (pd_var (i := 1) rfl (by first | exact Or.inl rfl | exact Or.inr (Or.inl rfl) | exact Or.inr (Or.inr rfl))) pda_nil))))
    (pdss_one (pds_ret (pd_call D_sum_by hg (hr.mono (by decide)) rfl hx (pda_cons (pd_var (i := 0) rfl (by first | exact Or.inl rfl | exact Or.inr (Or.inl rfl) | exact Or.inr (Or.inr rfl))) (pda_cons (pd_var (i := 1) rfl (by first | exact Or.inl rfl | exact Or.inr (Or.inl rfl) | exact Or.inr (Or.inr rfl))) pda_nil))))))
theorem sc__law_cask : FnScope ["script", "lap", "own", "held", "step", "spot", "cell"] ["script", "lap"] (defScope s__law_cask) := ⟨rfl, rfl, rfl, by decide +kernel, rfl, by decide +kernel, by decide +kernel⟩
theorem ok__law_cask {f : Addr} {fd : FuncData} (B : Bs K mg) (F : FnP K "_law_cask" s__law_cask f fd) : FnG P w K mg base (L2.CX P w) 1 f fd ["script", "lap"] (spD ⟨K, mg⟩ m__law_cask) := by
  have sc := sc__law_cask
  refine fn_mir (k := 0) F sc rfl fun cdv A outer s H E hr hg => ?_
  have hx : Passes (L2.CX P w) (cxOf (L2.CX P w) P w K mg base ["script", "lap", "own", "held", "step", "spot", "cell"] "_law_cask" (defScope s__law_cask) f cdv A outer s H E) E := passes_call (takes_of rfl rfl rfl rfl) fun _ _ _ _ h => h
  have hp : PassesOwn (model P w) (cxOf (L2.CX P w) P w K mg base ["script", "lap", "own", "held", "step", "spot", "cell"] "_law_cask" (defScope s__law_cask) f cdv A outer s H E).A (cxOf (L2.CX P w) P w K mg base ["script", "lap", "own", "held", "step", "spot", "cell"] "_law_cask" (defScope s__law_cask) f cdv A outer s H E).env (cxOf (L2.CX P w) P w K mg base ["script", "lap", "own", "held", "step", "spot", "cell"] "_law_cask" (defScope s__law_cask) f cdv A outer s H E).xe := passes_of rfl
  exact (pdss_cons (pds_set (pd_if (ptd_cmp op_lt od_int (pd_var (i := 1) rfl (by first | exact Or.inl rfl | exact Or.inr (Or.inl rfl) | exact Or.inr (Or.inr rfl))) (pd_callB cr_lenA cd_len rfl B.m_len rfl (pda_cons (pd_var (i := 0) rfl (by first | exact Or.inl rfl | exact Or.inr (Or.inl rfl) | exact Or.inr (Or.inr rfl))) pda_nil)) (by first | rfl | exact nomark _)) (pd_callTy call_int1 cd_int rfl B.m_int rfl (pda_cons (pd_ix (pd_var (i := 0) rfl (by first | exact Or.inl rfl | exact Or.inr (Or.inl rfl) | exact Or.inr (Or.inr rfl))) (pd_var (i := 1) rfl (by first | exact Or.inl rfl | exact Or.inr (Or.inl rfl) | exact Or.inr (Or.inr rfl))) (fun _ _ => rfl)) pda_nil)) pd_int) (gd_name (i := 2) sc.nd rfl (by first | exact Or.inl rfl | exact Or.inr rfl)))
    (pdss_cons (pds_par2 rfl sc.nd rfl rfl (by decide) rfl rfl (pd_bin op_addA od_add pd_int (pd_bin op_mulA od_mul pd_int (pd_var (i := 1) rfl (by first | exact Or.inl rfl | exact Or.inr (Or.inl rfl) | exact Or.inr (Or.inr rfl))))) (pd_bin op_addA od_add pd_int (pd_bin op_mulA od_mul pd_int (pd_var (i := 1) rfl (by first | exact Or.inl rfl | exact Or.inr (Or.inl rfl) | exact Or.inr (Or.inr rfl))))) rfl)
    (pdss_cons (pds_for hp rfl (id_enum rfl B.m_enumerate (pda_cons (pd_sl (pd_var (i := 0) rfl (by first | exact Or.inl rfl | exact Or.inr (Or.inl rfl) | exact Or.inr (Or.inr rfl))) pdo_none (pdo_some pd_int)) pda_nil)) (gd_tup rfl (gds_cons (gd_name (i := 5) sc.nd rfl (by first | exact Or.inl rfl | exact Or.inr rfl)) (gds_cons (gd_name (i := 6) sc.nd rfl (by first | exact Or.inl rfl | exact Or.inr rfl)) gds_nil))) (pdss_one (pds_set (pd_bin op_mod od_mod (pd_callTy call_int1 cd_int rfl B.m_int rfl (pda_cons (pd_bin op_addA od_add (pd_bin op_addA od_add (pd_bin op_mulA od_mul (pd_var (i := 3) rfl (by first | exact Or.inl rfl | exact Or.inr (Or.inl rfl) | exact Or.inr (Or.inr rfl))) pd_int) (pd_bin op_mulA od_mul (pd_callTy call_int1 cd_int rfl B.m_int rfl (pda_cons (pd_var (i := 6) rfl (by first | exact Or.inl rfl | exact Or.inr (Or.inl rfl) | exact Or.inr (Or.inr rfl))) pda_nil)) (pd_bin op_addA od_add (pd_bin op_mulA od_mul pd_int (pd_var (i := 5) rfl (by first | exact Or.inl rfl | exact Or.inr (Or.inl rfl) | exact Or.inr (Or.inr rfl)))) pd_int))) (pd_var (i := 4) rfl (by first | exact Or.inl rfl | exact Or.inr (Or.inl rfl) | exact Or.inr (Or.inr rfl)))) pda_nil)) pd_int) (gd_name (i := 3) sc.nd rfl (by first | exact Or.inl rfl | exact Or.inr rfl)))))
    (pdss_one (pds_ret (pd_lst (pl_disp (pda_cons (pd_if (ptd_of_w (pwd_or (ptd_cmp op_lt od_int (pd_var (i := 2) rfl (by first | exact Or.inl rfl | exact Or.inr (Or.inl rfl) | exact Or.inr (Or.inr rfl))) pd_int (by first | rfl | exact nomark _)) (pwd_or1 (ptd_cmp op_gt od_int (pd_var (i := 2) rfl (by first | exact Or.inl rfl | exact Or.inr (Or.inl rfl) | exact Or.inr (Or.inr rfl))) (pd_bin op_pow od_pow pd_int pd_int) (by first | rfl | exact nomark _))))) (pd_bin op_mod od_mod (pd_callB call_abs cd_abs rfl B.m_abs rfl (pda_cons (pd_var (i := 2) rfl (by first | exact Or.inl rfl | exact Or.inr (Or.inl rfl) | exact Or.inr (Or.inr rfl))) pda_nil)) (pd_bin op_pow od_pow pd_int pd_int)) pd_int) (pda_cons (pd_var (i := 3) rfl (by first | exact Or.inl rfl | exact Or.inr (Or.inl rfl) | exact Or.inr (Or.inr rfl))) (pda_cons (pd_var (i := 4) rfl (by first | exact Or.inl rfl | exact Or.inr (Or.inl rfl) | exact Or.inr (Or.inr rfl))) pda_nil))))))))))
theorem sc__law_tap : FnScope ["cask", "many", "told"] ["cask", "many"] (defScope s__law_tap) := ⟨rfl, rfl, rfl, by decide +kernel, rfl, by decide +kernel, by decide +kernel⟩
theorem ok__law_tap {f : Addr} {fd : FuncData} (B : Bs K mg) (F : FnP K "_law_tap" s__law_tap f fd) : FnG P w K mg base (L2.CX P w) 1 f fd ["cask", "many"] (spD ⟨K, mg⟩ m__law_tap) := by
  have sc := sc__law_tap
  refine fn_mir (k := 0) F sc rfl fun cdv A outer s H E hr hg => ?_
  have hx : Passes (L2.CX P w) (cxOf (L2.CX P w) P w K mg base ["cask", "many", "told"] "_law_tap" (defScope s__law_tap) f cdv A outer s H E) E := passes_call (takes_of rfl rfl rfl rfl) fun _ _ _ _ h => h
  have hp : PassesOwn (model P w) (cxOf (L2.CX P w) P w K mg base ["cask", "many", "told"] "_law_tap" (defScope s__law_tap) f cdv A outer s H E).A (cxOf (L2.CX P w) P w K mg base ["cask", "many", "told"] "_law_tap" (defScope s__law_tap) f cdv A outer s H E).env (cxOf (L2.CX P w) P w K mg base ["cask", "many", "told"] "_law_tap" (defScope s__law_tap) f cdv A outer s H E).xe := passes_of rfl
  exact (pdss_cons (pds_if (ptd_cmp op_gt od_int (pd_ix (pd_var (i := 0) rfl (by first | exact Or.inl rfl | exact Or.inr (Or.inl rfl) | exact Or.inr (Or.inr rfl))) pd_int (fun _ _ => rfl)) pd_int (by first | rfl | exact nomark _)) (pdss_cons (pds_set (pd_bin op_mod od_mod (pd_callTy call_int1 cd_int rfl B.m_int rfl (pda_cons (pd_ix (pd_var (i := 0) rfl (by first | exact Or.inl rfl | exact Or.inr (Or.inl rfl) | exact Or.inr (Or.inr rfl))) pd_int (fun _ _ => rfl)) pda_nil)) (pd_var (i := 1) rfl (by first | exact Or.inl rfl | exact Or.inr (Or.inl rfl) | exact Or.inr (Or.inr rfl)))) (gd_name (i := 2) sc.nd rfl (by first | exact Or.inl rfl | exact Or.inr rfl)))
    (pdss_cons (pds_put (i := 0) rfl (by first | exact Or.inl rfl | exact Or.inr (Or.inl rfl) | exact Or.inr (Or.inr rfl)) pd_int (pd_bin op_fdivW od_fdiv (pd_ix (pd_var (i := 0) rfl (by first | exact Or.inl rfl | exact Or.inr (Or.inl rfl) | exact Or.inr (Or.inr rfl))) pd_int (fun _ _ => rfl)) (pd_var (i := 1) rfl (by first | exact Or.inl rfl | exact Or.inr (Or.inl rfl) | exact Or.inr (Or.inr rfl)))))
    (pdss_one (pds_ret (pd_var (i := 2) rfl (by first | exact Or.inl rfl | exact Or.inr (Or.inl rfl) | exact Or.inr (Or.inr rfl))))))) pdss_nil)
    (pdss_cons (pds_put (i := 0) rfl (by first | exact Or.inl rfl | exact Or.inr (Or.inl rfl) | exact Or.inr (Or.inr rfl)) pd_int (pd_bin op_mod od_mod (pd_callTy call_int1 cd_int rfl B.m_int rfl (pda_cons (pd_bin op_addA od_add (pd_bin op_mulA od_mul (pd_ix (pd_var (i := 0) rfl (by first | exact Or.inl rfl | exact Or.inr (Or.inl rfl) | exact Or.inr (Or.inr rfl))) pd_int (fun _ _ => rfl)) pd_int) (pd_ix (pd_var (i := 0) rfl (by first | exact Or.inl rfl | exact Or.inr (Or.inl rfl) | exact Or.inr (Or.inr rfl))) pd_int (fun _ _ => rfl))) pda_nil)) pd_int))
    (pdss_one (pds_ret (pd_bin op_mod od_mod (pd_callTy call_int1 cd_int rfl B.m_int rfl (pda_cons (pd_bin op_fdivW od_fdiv (pd_ix (pd_var (i := 0) rfl (by first | exact Or.inl rfl | exact Or.inr (Or.inl rfl) | exact Or.inr (Or.inr rfl))) pd_int (fun _ _ => rfl)) pd_int) pda_nil)) (pd_var (i := 1) rfl (by first | exact Or.inl rfl | exact Or.inr (Or.inl rfl) | exact Or.inr (Or.inr rfl))))))))
theorem sc__law_one_from : FnScope ["cask", "things"] ["cask", "things"] (defScope s__law_one_from) := ⟨rfl, rfl, rfl, by decide +kernel, rfl, by decide +kernel, by decide +kernel⟩
theorem ok__law_one_from {f : Addr} {fd : FuncData} (B : Bs K mg) (F : FnP K "_law_one_from" s__law_one_from f fd) (D__law_tap : DefG P w K mg base 1 "_law_tap" m__law_tap) : FnG P w K mg base (L2.CX P w) 2 f fd ["cask", "things"] (spD ⟨K, mg⟩ m__law_one_from) := by
  have sc := sc__law_one_from
  refine fn_mir (k := 1) F sc rfl fun cdv A outer s H E hr hg => ?_
  have hx : Passes (L2.CX P w) (cxOf (L2.CX P w) P w K mg base ["cask", "things"] "_law_one_from" (defScope s__law_one_from) f cdv A outer s H E) E := passes_call (takes_of rfl rfl rfl rfl) fun _ _ _ _ h => h
  have hp : PassesOwn (model P w) (cxOf (L2.CX P w) P w K mg base ["cask", "things"] "_law_one_from" (defScope s__law_one_from) f cdv A outer s H E).A (cxOf (L2.CX P w) P w K mg base ["cask", "things"] "_law_one_from" (defScope s__law_one_from) f cdv A outer s H E).env (cxOf (L2.CX P w) P w K mg base ["cask", "things"] "_law_one_from" (defScope s__law_one_from) f cdv A outer s H E).xe := passes_of rfl
  exact (pdss_one (pds_ret (pd_ix (pd_var (i := 1) rfl (by first | exact Or.inl rfl | exact Or.inr (Or.inl rfl) | exact Or.inr (Or.inr rfl))) (pd_call D__law_tap hg (hr.mono (by decide)) rfl hx (pda_cons (pd_var (i := 0) rfl (by first | exact Or.inl rfl | exact Or.inr (Or.inl rfl) | exact Or.inr (Or.inr rfl))) (pda_cons (pd_callB cr_lenA cd_len rfl B.m_len rfl (pda_cons (pd_var (i := 1) rfl (by first | exact Or.inl rfl | exact Or.inr (Or.inl rfl) | exact Or.inr (Or.inr rfl))) pda_nil)) pda_nil))) (fun _ _ => rfl))))
theorem sc__law_alike : FnScope ["told", "other"] ["told", "other"] (defScope s__law_alike) := ⟨rfl, rfl, rfl, by decide +kernel, rfl, by decide +kernel, by decide +kernel⟩
theorem ok__law_alike {f : Addr} {fd : FuncData} (B : Bs K mg) (F : FnP K "_law_alike" s__law_alike f fd) : FnG P w K mg base (L2.CX P w) 1 f fd ["told", "other"] (spD ⟨K, mg⟩ m__law_alike) := by
  have sc := sc__law_alike
  refine fn_mir (k := 0) F sc rfl fun cdv A outer s H E hr hg => ?_
  have hx : Passes (L2.CX P w) (cxOf (L2.CX P w) P w K mg base ["told", "other"] "_law_alike" (defScope s__law_alike) f cdv A outer s H E) E := passes_call (takes_of rfl rfl rfl rfl) fun _ _ _ _ h => h
  have hp : PassesOwn (model P w) (cxOf (L2.CX P w) P w K mg base ["told", "other"] "_law_alike" (defScope s__law_alike) f cdv A outer s H E).A (cxOf (L2.CX P w) P w K mg base ["told", "other"] "_law_alike" (defScope s__law_alike) f cdv A outer s H E).env (cxOf (L2.CX P w) P w K mg base ["told", "other"] "_law_alike" (defScope s__law_alike) f cdv A outer s H E).xe := passes_of rfl
  exact (pdss_one (pds_ret (pd_cmp (op_eqD (room_eq hr)) od_eq (pd_callB (cr_repr hg (room_repr hr)) cd_repr rfl B.m_repr rfl (pda_cons (pd_var (i := 0) rfl (by first | exact Or.inl rfl | exact Or.inr (Or.inl rfl) | exact Or.inr (Or.inr rfl))) pda_nil)) (pd_callB (cr_repr hg (room_repr hr)) cd_repr rfl B.m_repr rfl (pda_cons (pd_var (i := 1) rfl (by first | exact Or.inl rfl | exact Or.inr (Or.inl rfl) | exact Or.inr (Or.inr rfl))) pda_nil)) (by first | rfl | exact nomark _))))
theorem sc__law_measure : FnScope ["one", "two", "go"] ["one", "two"] (defScope s__law_measure) := ⟨rfl, rfl, rfl, by decide +kernel, rfl, by decide +kernel, by decide +kernel⟩
theorem ok__law_measure {f : Addr} {fd : FuncData} (B : Bs K mg) (F : FnP K "_law_measure" s__law_measure f fd) : FnG P w K mg base (L2.CX P w) 1 f fd ["one", "two"] (spD ⟨K, mg⟩ m__law_measure) := by
  have sc := sc__law_measure
  refine fn_mir (k := 0) F sc rfl fun cdv A outer s H E hr hg => ?_
  have hx : Passes (L2.CX P w) (cxOf (L2.CX P w) P w K mg base ["one", "two", "go"] "_law_measure" (defScope s__law_measure) f cdv A outer s H E) E := passes_call (takes_of rfl rfl rfl rfl) fun _ _ _ _ h => h
  have hp : PassesOwn (model P w) (cxOf (L2.CX P w) P w K mg base ["one", "two", "go"] "_law_measure" (defScope s__law_measure) f cdv A outer s H E).A (cxOf (L2.CX P w) P w K mg base ["one", "two", "go"] "_law_measure" (defScope s__law_measure) f cdv A outer s H E).env (cxOf (L2.CX P w) P w K mg base ["one", "two", "go"] "_law_measure" (defScope s__law_measure) f cdv A outer s H E).xe := passes_of rfl
  exact (pdss_cons (pds_par2 rfl sc.nd rfl rfl (by decide) rfl rfl (pd_callB call_abs cd_abs rfl B.m_abs rfl (pda_cons (pd_var (i := 0) rfl (by first | exact Or.inl rfl | exact Or.inr (Or.inl rfl) | exact Or.inr (Or.inr rfl))) pda_nil)) (pd_callB call_abs cd_abs rfl B.m_abs rfl (pda_cons (pd_var (i := 1) rfl (by first | exact Or.inl rfl | exact Or.inr (Or.inl rfl) | exact Or.inr (Or.inr rfl))) pda_nil)) rfl)
    (pdss_cons (pds_for hp rfl (id_range1 rfl B.m_range (pda_cons (pd_bin op_addA od_add (pd_bin op_mulA od_mul pd_int (pd_bin op_addA od_add (pd_bits (pd_var (i := 0) rfl (by first | exact Or.inl rfl | exact Or.inr (Or.inl rfl) | exact Or.inr (Or.inr rfl)))) (pd_bits (pd_var (i := 1) rfl (by first | exact Or.inl rfl | exact Or.inr (Or.inl rfl) | exact Or.inr (Or.inr rfl)))))) pd_int) pda_nil)) (gd_name (i := 2) sc.nd rfl (by first | exact Or.inl rfl | exact Or.inr rfl)) (pdss_cons (pds_if (ptd_cmp (op_eqD (room_eq hr)) od_eq (pd_var (i := 1) rfl (by first | exact Or.inl rfl | exact Or.inr (Or.inl rfl) | exact Or.inr (Or.inr rfl))) pd_int (by first | rfl | exact nomark _)) (pdss_one (pds_ret (pd_var (i := 0) rfl (by first | exact Or.inl rfl | exact Or.inr (Or.inl rfl) | exact Or.inr (Or.inr rfl))))) pdss_nil)
    (pdss_one (pds_par2 rfl sc.nd rfl rfl (by decide) rfl rfl (pd_var (i := 1) rfl (by first | exact Or.inl rfl | exact Or.inr (Or.inl rfl) | exact Or.inr (Or.inr rfl))) (pd_bin op_mod od_mod (pd_callTy call_int1 cd_int rfl B.m_int rfl (pda_cons (pd_var (i := 0) rfl (by first | exact Or.inl rfl | exact Or.inr (Or.inl rfl) | exact Or.inr (Or.inr rfl))) pda_nil)) (pd_var (i := 1) rfl (by first | exact Or.inl rfl | exact Or.inr (Or.inl rfl) | exact Or.inr (Or.inr rfl)))) rfl))))
    (pdss_one (pds_ret (pd_var (i := 0) rfl (by first | exact Or.inl rfl | exact Or.inr (Or.inl rfl) | exact Or.inr (Or.inr rfl)))))))
theorem sc__law_frac : FnScope ["top", "low", "part"] ["top", "low"] (defScope s__law_frac) := ⟨rfl, rfl, rfl, by decide +kernel, rfl, by decide +kernel, by decide +kernel⟩
theorem ok__law_frac {f : Addr} {fd : FuncData} (B : Bs K mg) (F : FnP K "_law_frac" s__law_frac f fd) (D__law_measure : DefG P w K mg base 1 "_law_measure" m__law_measure) : FnG P w K mg base (L2.CX P w) 2 f fd ["top", "low"] (spD ⟨K, mg⟩ m__law_frac) := by
  have sc := sc__law_frac
  refine fn_mir (k := 1) F sc rfl fun cdv A outer s H E hr hg => ?_
  have hx : Passes (L2.CX P w) (cxOf (L2.CX P w) P w K mg base ["top", "low", "part"] "_law_frac" (defScope s__law_frac) f cdv A outer s H E) E := passes_call (takes_of rfl rfl rfl rfl) fun _ _ _ _ h => h
  have hp : PassesOwn (model P w) (cxOf (L2.CX P w) P w K mg base ["top", "low", "part"] "_law_frac" (defScope s__law_frac) f cdv A outer s H E).A (cxOf (L2.CX P w) P w K mg base ["top", "low", "part"] "_law_frac" (defScope s__law_frac) f cdv A outer s H E).env (cxOf (L2.CX P w) P w K mg base ["top", "low", "part"] "_law_frac" (defScope s__law_frac) f cdv A outer s H E).xe := passes_of rfl
  exact (pdss_cons (pds_set (pd_bin op_mulA od_mul (pd_call D__law_measure hg (hr.mono (by decide)) rfl hx (pda_cons (pd_var (i := 0) rfl (by first | exact Or.inl rfl | exact Or.inr (Or.inl rfl) | exact Or.inr (Or.inr rfl))) (pda_cons (pd_var (i := 1) rfl (by first | exact Or.inl rfl | exact Or.inr (Or.inl rfl) | exact Or.inr (Or.inr rfl))) pda_nil))) (pd_if (ptd_cmp op_gt od_int (pd_var (i := 1) rfl (by first | exact Or.inl rfl | exact Or.inr (Or.inl rfl) | exact Or.inr (Or.inr rfl))) pd_int (by first | rfl | exact nomark _)) pd_int (pd_neg pd_int))) (gd_name (i := 2) sc.nd rfl (by first | exact Or.inl rfl | exact Or.inr rfl)))
    (pdss_one (pds_ret (pd_tup (pda_cons (pd_bin op_fdivW od_fdiv (pd_var (i := 0) rfl (by first | exact Or.inl rfl | exact Or.inr (Or.inl rfl) | exact Or.inr (Or.inr rfl))) (pd_var (i := 2) rfl (by first | exact Or.inl rfl | exact Or.inr (Or.inl rfl) | exact Or.inr (Or.inr rfl)))) (pda_cons (pd_bin op_fdivW od_fdiv (pd_var (i := 1) rfl (by first | exact Or.inl rfl | exact Or.inr (Or.inl rfl) | exact Or.inr (Or.inr rfl))) (pd_var (i := 2) rfl (by first | exact Or.inl rfl | exact Or.inr (Or.inl rfl) | exact Or.inr (Or.inr rfl)))) pda_nil))))))
theorem sc__law_plus : FnScope ["one", "two"] ["one", "two"] (defScope s__law_plus) := ⟨rfl, rfl, rfl, by decide +kernel, rfl, by decide +kernel, by decide +kernel⟩
theorem ok__law_plus {f : Addr} {fd : FuncData} (B : Bs K mg) (F : FnP K "_law_plus" s__law_plus f fd) (D__law_frac : DefG P w K mg base 2 "_law_frac" m__law_frac) : FnG P w K mg base (L2.CX P w) 3 f fd ["one", "two"] (spD ⟨K, mg⟩ m__law_plus) := by
  have sc := sc__law_plus
  refine fn_mir (k := 2) F sc rfl fun cdv A outer s H E hr hg => ?_
  have hx : Passes (L2.CX P w) (cxOf (L2.CX P w) P w K mg base ["one", "two"] "_law_plus" (defScope s__law_plus) f cdv A outer s H E) E := passes_call (takes_of rfl rfl rfl rfl) fun _ _ _ _ h => h
  have hp : PassesOwn (model P w) (cxOf (L2.CX P w) P w K mg base ["one", "two"] "_law_plus" (defScope s__law_plus) f cdv A outer s H E).A (cxOf (L2.CX P w) P w K mg base ["one", "two"] "_law_plus" (defScope s__law_plus) f cdv A outer s H E).env (cxOf (L2.CX P w) P w K mg base ["one", "two"] "_law_plus" (defScope s__law_plus) f cdv A outer s H E).xe := passes_of rfl
  exact (pdss_one (pds_ret (pd_call D__law_frac hg (hr.mono (by decide)) rfl hx (pda_cons (pd_bin op_addA od_add (pd_bin op_mulA od_mul (pd_ix (pd_var (i := 0) rfl (by first | exact Or.inl rfl | exact Or.inr (Or.inl rfl) | exact Or.inr (Or.inr rfl))) pd_int (fun _ _ => rfl)) (pd_ix (pd_var (i := 1) rfl (by first | exact Or.inl rfl | exact Or.inr (Or.inl rfl) | exact Or.inr (Or.inr rfl))) pd_int (fun _ _ => rfl))) (pd_bin op_mulA od_mul (pd_ix (pd_var (i := 1) rfl (by first | exact Or.inl rfl | exact Or.inr (Or.inl rfl) | exact Or.inr (Or.inr rfl))) pd_int (fun _ _ => rfl)) (pd_ix (pd_var (i := 0) rfl (by first | exact Or.inl rfl | exact Or.inr (Or.inl rfl) | exact Or.inr (Or.inr rfl))) pd_int (fun _ _ => rfl)))) (pda_cons (pd_bin op_mulA od_mul (pd_ix (pd_var (i := 0) rfl (by first | exact Or.inl rfl | exact Or.inr (Or.inl rfl) | exact Or.inr (Or.inr rfl))) pd_int (fun _ _ => rfl)) (pd_ix (pd_var (i := 1) rfl (by first | exact Or.inl rfl | exact Or.inr (Or.inl rfl) | exact Or.inr (Or.inr rfl))) pd_int (fun _ _ => rfl))) pda_nil)))))
theorem sc__law_by : FnScope ["one", "two"] ["one", "two"] (defScope s__law_by) := ⟨rfl, rfl, rfl, by decide +kernel, rfl, by decide +kernel, by decide +kernel⟩
theorem ok__law_by {f : Addr} {fd : FuncData} (B : Bs K mg) (F : FnP K "_law_by" s__law_by f fd) (D__law_frac : DefG P w K mg base 2 "_law_frac" m__law_frac) : FnG P w K mg base (L2.CX P w) 3 f fd ["one", "two"] (spD ⟨K, mg⟩ m__law_by) := by
  have sc := sc__law_by
  refine fn_mir (k := 2) F sc rfl fun cdv A outer s H E hr hg => ?_
  have hx : Passes (L2.CX P w) (cxOf (L2.CX P w) P w K mg base ["one", "two"] "_law_by" (defScope s__law_by) f cdv A outer s H E) E := passes_call (takes_of rfl rfl rfl rfl) fun _ _ _ _ h => h
  have hp : PassesOwn (model P w) (cxOf (L2.CX P w) P w K mg base ["one", "two"] "_law_by" (defScope s__law_by) f cdv A outer s H E).A (cxOf (L2.CX P w) P w K mg base ["one", "two"] "_law_by" (defScope s__law_by) f cdv A outer s H E).env (cxOf (L2.CX P w) P w K mg base ["one", "two"] "_law_by" (defScope s__law_by) f cdv A outer s H E).xe := passes_of rfl
  exact (pdss_one (pds_ret (pd_call D__law_frac hg (hr.mono (by decide)) rfl hx (pda_cons (pd_bin op_mulA od_mul (pd_ix (pd_var (i := 0) rfl (by first | exact Or.inl rfl | exact Or.inr (Or.inl rfl) | exact Or.inr (Or.inr rfl))) pd_int (fun _ _ => rfl)) (pd_ix (pd_var (i := 1) rfl (by first | exact Or.inl rfl | exact Or.inr (Or.inl rfl) | exact Or.inr (Or.inr rfl))) pd_int (fun _ _ => rfl))) (pda_cons (pd_bin op_mulA od_mul (pd_ix (pd_var (i := 0) rfl (by first | exact Or.inl rfl | exact Or.inr (Or.inl rfl) | exact Or.inr (Or.inr rfl))) pd_int (fun _ _ => rfl)) (pd_ix (pd_var (i := 1) rfl (by first | exact Or.inl rfl | exact Or.inr (Or.inl rfl) | exact Or.inr (Or.inr rfl))) pd_int (fun _ _ => rfl))) pda_nil)))))
theorem sc__law_is_fraction : FnScope ["value", "each"] ["value"] (defScope s__law_is_fraction) := ⟨rfl, rfl, rfl, by decide +kernel, rfl, by decide +kernel, by decide +kernel⟩
theorem ok__law_is_fraction {f : Addr} {fd : FuncData} (B : Bs K mg) (F : FnP K "_law_is_fraction" s__law_is_fraction f fd) (D__law_measure : DefG P w K mg base 1 "_law_measure" m__law_measure) : FnG P w K mg base (L2.CX P w) 2 f fd ["value"] (spD ⟨K, mg⟩ m__law_is_fraction) := by
  have sc := sc__law_is_fraction
  refine fn_mir (k := 1) F sc rfl fun cdv A outer s H E hr hg => ?_
  have hx : Passes (L2.CX P w) (cxOf (L2.CX P w) P w K mg base ["value", "each"] "_law_is_fraction" (defScope s__law_is_fraction) f cdv A outer s H E) E := passes_call (takes_of rfl rfl rfl rfl) fun _ _ _ _ h => h
  have hp : PassesOwn (model P w) (cxOf (L2.CX P w) P w K mg base ["value", "each"] "_law_is_fraction" (defScope s__law_is_fraction) f cdv A outer s H E).A (cxOf (L2.CX P w) P w K mg base ["value", "each"] "_law_is_fraction" (defScope s__law_is_fraction) f cdv A outer s H E).env (cxOf (L2.CX P w) P w K mg base ["value", "each"] "_law_is_fraction" (defScope s__law_is_fraction) f cdv A outer s H E).xe := passes_of rfl
  exact (pdss_cons (pds_if (ptd_of_w (pwd_or (ptd_not (ptd_val (pd_callB call_isi cd_isi rfl B.m_isinstance rfl (pda_cons (pd_var (i := 0) rfl (by first | exact Or.inl rfl | exact Or.inr (Or.inl rfl) | exact Or.inr (Or.inr rfl))) (pda_cons (pd_ty (n := "tuple") rfl B.m_tuple rfl) pda_nil))))) (pwd_or (ptd_cmp (op_neD (room_eq hr)) od_ne (pd_callB cr_lenA cd_len rfl B.m_len rfl (pda_cons (pd_var (i := 0) rfl (by first | exact Or.inl rfl | exact Or.inr (Or.inl rfl) | exact Or.inr (Or.inr rfl))) pda_nil)) pd_int (by first | rfl | exact nomark _)) (pwd_or1 (ptd_cmp (op_neD (room_eq hr)) od_ne (pd_lst (pl_comp (own := [("each", 1)]) rfl rfl sc.nd (id_seq (pd_var (i := 0) rfl (by first | exact Or.inl rfl | exact Or.inr (Or.inl rfl) | exact Or.inr (Or.inr rfl)))) (blkOk_by (by first | rfl | kernel_rfl)) (fun _ _ _ _ _ => (gd_name (i := 1) sc.nd rfl (by first | exact Or.inl rfl | exact Or.inr rfl))) (fun _ _ _ _ _ => (ptsd_one (ptd_of_w (pwd_or (ptd_not (ptd_val (pd_callB call_isi cd_isi rfl B.m_isinstance rfl (pda_cons (pd_var (i := 1) rfl (by first | exact Or.inl rfl | exact Or.inr (Or.inl rfl) | exact Or.inr (Or.inr rfl))) (pda_cons (pd_ty (n := "int") rfl B.m_int rfl) pda_nil))))) (pwd_or1 (ptd_val (pd_callB call_isi cd_isi rfl B.m_isinstance rfl (pda_cons (pd_var (i := 1) rfl (by first | exact Or.inl rfl | exact Or.inr (Or.inl rfl) | exact Or.inr (Or.inr rfl))) (pda_cons (pd_ty (n := "bool") rfl B.m_bool rfl) pda_nil))))))))) (fun _ _ _ _ _ => pd_int))) (pd_lst (pl_disp pda_nil)) (by first | rfl | exact nomark _)))))) (pdss_one (pds_ret pd_bl)) pdss_nil)
    (pdss_one (pds_ret (pd_and (pd_cmp op_gt od_int (pd_ix (pd_var (i := 0) rfl (by first | exact Or.inl rfl | exact Or.inr (Or.inl rfl) | exact Or.inr (Or.inr rfl))) pd_int (fun _ _ => rfl)) pd_int (by first | rfl | exact nomark _)) (pd_one (pd_cmp (op_eqD (room_eq hr)) od_eq (pd_call D__law_measure hg (hr.mono (by decide)) rfl hx (pda_cons (pd_ix (pd_var (i := 0) rfl (by first | exact Or.inl rfl | exact Or.inr (Or.inl rfl) | exact Or.inr (Or.inr rfl))) pd_int (fun _ _ => rfl)) (pda_cons (pd_ix (pd_var (i := 0) rfl (by first | exact Or.inl rfl | exact Or.inr (Or.inl rfl) | exact Or.inr (Or.inr rfl))) pd_int (fun _ _ => rfl)) pda_nil))) pd_int (by first | rfl | exact nomark _)))))))
theorem sc__law_trimmed : FnScope ["numbers", "found", "go"] ["numbers"] (defScope s__law_trimmed) := ⟨rfl, rfl, rfl, by decide +kernel, rfl, by decide +kernel, by decide +kernel⟩
theorem ok__law_trimmed {f : Addr} {fd : FuncData} (B : Bs K mg) (F : FnP K "_law_trimmed" s__law_trimmed f fd) : FnG P w K mg base (L2.CX P w) 1 f fd ["numbers"] (spD ⟨K, mg⟩ m__law_trimmed) := by
  have sc := sc__law_trimmed
  refine fn_mir (k := 0) F sc rfl fun cdv A outer s H E hr hg => ?_
  have hx : Passes (L2.CX P w) (cxOf (L2.CX P w) P w K mg base ["numbers", "found", "go"] "_law_trimmed" (defScope s__law_trimmed) f cdv A outer s H E) E := passes_call (takes_of rfl rfl rfl rfl) fun _ _ _ _ h => h
  have hp : PassesOwn (model P w) (cxOf (L2.CX P w) P w K mg base ["numbers", "found", "go"] "_law_trimmed" (defScope s__law_trimmed) f cdv A outer s H E).A (cxOf (L2.CX P w) P w K mg base ["numbers", "found", "go"] "_law_trimmed" (defScope s__law_trimmed) f cdv A outer s H E).env (cxOf (L2.CX P w) P w K mg base ["numbers", "found", "go"] "_law_trimmed" (defScope s__law_trimmed) f cdv A outer s H E).xe := passes_of rfl
  exact (pdss_cons (pds_set (pd_lst (pl_list rfl B.m_list rfl (pda_cons (pd_var (i := 0) rfl (by first | exact Or.inl rfl | exact Or.inr (Or.inl rfl) | exact Or.inr (Or.inr rfl))) pda_nil))) (gd_name (i := 1) sc.nd rfl (by first | exact Or.inl rfl | exact Or.inr rfl)))
    (pdss_cons (pds_for hp rfl (id_range1 rfl B.m_range (pda_cons (pd_callB cr_lenA cd_len rfl B.m_len rfl (pda_cons (pd_var (i := 0) rfl (by first | exact Or.inl rfl | exact Or.inr (Or.inl rfl) | exact Or.inr (Or.inr rfl))) pda_nil)) pda_nil)) (gd_name (i := 2) sc.nd rfl (by first | exact Or.inl rfl | exact Or.inr rfl)) (pdss_cons (pds_set (pd_if (ptd_cmp (op_eqD (room_eq hr)) od_eq (pd_ix (pd_ix (pd_var (i := 1) rfl (by first | exact Or.inl rfl | exact Or.inr (Or.inl rfl) | exact Or.inr (Or.inr rfl))) (pd_neg pd_int) (fun _ _ => rfl)) pd_int (fun _ _ => rfl)) pd_int (by first | rfl | exact nomark _)) (pd_sl (pd_var (i := 1) rfl (by first | exact Or.inl rfl | exact Or.inr (Or.inl rfl) | exact Or.inr (Or.inr rfl))) pdo_none (pdo_some (pd_neg pd_int))) (pd_var (i := 1) rfl (by first | exact Or.inl rfl | exact Or.inr (Or.inl rfl) | exact Or.inr (Or.inr rfl)))) (gd_name (i := 1) sc.nd rfl (by first | exact Or.inl rfl | exact Or.inr rfl)))
    (pdss_one (pds_if (ptd_cmp (op_eqD (room_eq hr)) od_eq (pd_var (i := 1) rfl (by first | exact Or.inl rfl | exact Or.inr (Or.inl rfl) | exact Or.inr (Or.inr rfl))) (pd_lst (pl_disp pda_nil)) (by first | rfl | exact nomark _)) (pdss_one (pds_ret (pd_tup pda_nil))) pdss_nil))))
    (pdss_one (pds_ret (pd_callTy cr_tupA cd_tup rfl B.m_tuple rfl (pda_cons (pd_var (i := 1) rfl (by first | exact Or.inl rfl | exact Or.inr (Or.inl rfl) | exact Or.inr (Or.inr rfl))) pda_nil))))))
theorem sc__law_mixed : FnScope ["one", "a", "two", "b", "many", "lines", "poly", "x", "y"] ["one", "a", "two", "b"] (defScope s__law_mixed) := ⟨rfl, rfl, rfl, by decide +kernel, rfl, by decide +kernel, by decide +kernel⟩
theorem ok__law_mixed {f : Addr} {fd : FuncData} (B : Bs K mg) (F : FnP K "_law_mixed" s__law_mixed f fd) (D__law_by : DefG P w K mg base 3 "_law_by" m__law_by) (D__law_plus : DefG P w K mg base 3 "_law_plus" m__law_plus) (D__law_trimmed : DefG P w K mg base 1 "_law_trimmed" m__law_trimmed) : FnG P w K mg base (L2.CX P w) 4 f fd ["one", "a", "two", "b"] (spD ⟨K, mg⟩ m__law_mixed) := by
  have sc := sc__law_mixed
  refine fn_mir (k := 3) F sc rfl fun cdv A outer s H E hr hg => ?_
  have hx : Passes (L2.CX P w) (cxOf (L2.CX P w) P w K mg base ["one", "a", "two", "b", "many", "lines", "poly", "x", "y"] "_law_mixed" (defScope s__law_mixed) f cdv A outer s H E) E := passes_call (takes_of rfl rfl rfl rfl) fun _ _ _ _ h => h
  have hp : PassesOwn (model P w) (cxOf (L2.CX P w) P w K mg base ["one", "a", "two", "b", "many", "lines", "poly", "x", "y"] "_law_mixed" (defScope s__law_mixed) f cdv A outer s H E).A (cxOf (L2.CX P w) P w K mg base ["one", "a", "two", "b", "many", "lines", "poly", "x", "y"] "_law_mixed" (defScope s__law_mixed) f cdv A outer s H E).env (cxOf (L2.CX P w) P w K mg base ["one", "a", "two", "b", "many", "lines", "poly", "x", "y"] "_law_mixed" (defScope s__law_mixed) f cdv A outer s H E).xe := passes_of rfl
  exact (pdss_cons (pds_set (pd_callB (call_max2 rfl) cd_max rfl B.m_max rfl (pda_cons (pd_callB cr_lenA cd_len rfl B.m_len rfl (pda_cons (pd_var (i := 0) rfl (by first | exact Or.inl rfl | exact Or.inr (Or.inl rfl) | exact Or.inr (Or.inr rfl))) pda_nil)) (pda_cons (pd_callB cr_lenA cd_len rfl B.m_len rfl (pda_cons (pd_var (i := 2) rfl (by first | exact Or.inl rfl | exact Or.inr (Or.inl rfl) | exact Or.inr (Or.inr rfl))) pda_nil)) pda_nil))) (gd_name (i := 4) sc.nd rfl (by first | exact Or.inl rfl | exact Or.inr rfl)))
    (pdss_cons (by first | exact (pds_set (pd_lst (pl_comp (own := [("poly", 6)]) rfl rfl sc.nd (id_seq (pd_tup (pda_cons (pd_var (i := 0) rfl (by first | exact Or.inl rfl | exact Or.inr (Or.inl rfl) | exact Or.inr (Or.inr rfl))) (pda_cons (pd_var (i := 2) rfl (by first | exact Or.inl rfl | exact Or.inr (Or.inl rfl) | exact Or.inr (Or.inr rfl))) pda_nil)))) (blkOk_by (by first | rfl | kernel_rfl)) (fun _ _ _ _ _ => (gd_name (i := 6) sc.nd rfl (by first | exact Or.inl rfl | exact Or.inr rfl))) (fun _ _ _ _ _ => ptsd_nil) (fun _ _ _ _ _ => (pd_bin op_addA od_add (pd_lst (pl_list rfl B.m_list rfl (pda_cons (pd_var (i := 6) rfl (by first | exact Or.inl rfl | exact Or.inr (Or.inl rfl) | exact Or.inr (Or.inr rfl))) pda_nil))) (pd_lst (pl_bin op_rep od_rep (pd_lst (pl_disp (pda_cons (pd_tup (pda_cons pd_int (pda_cons pd_int pda_nil))) pda_nil))) (pd_bin op_sub od_sub (pd_var (i := 4) rfl (by first | exact Or.inl rfl | exact Or.inr (Or.inl rfl) | exact Or.inr (Or.inr rfl))) (pd_callB cr_lenA cd_len rfl B.m_len rfl (pda_cons (pd_var (i := 6) rfl (by first | exact Or.inl rfl | exact Or.inr (Or.inl rfl) | exact Or.inr (Or.inr rfl))) pda_nil))))))))) (gd_name (i := 5) sc.nd rfl (by first | exact Or.inl rfl | exact Or.inr rfl))) | exact pds_setC sc.nd rfl rfl rfl (own := [("poly", 6)]) rfl rfl (id_seq (pd_tup (pda_cons (pd_var (i := 0) rfl (by first | exact Or.inl rfl | exact Or.inr (Or.inl rfl) | exact Or.inr (Or.inr rfl))) (pda_cons (pd_var (i := 2) rfl (by first | exact Or.inl rfl | exact Or.inr (Or.inl rfl) | exact Or.inr (Or.inr rfl))) pda_nil)))) (blkOk_by (by first | rfl | kernel_rfl)) (fun _ _ _ _ _ => (gd_name (i := 6) sc.nd rfl (by first | exact Or.inl rfl | exact Or.inr rfl))) (fun _ _ _ _ _ => ptsd_nil) (fun _ _ _ _ _ => (pd_bin op_addA od_add (pd_lst (pl_list rfl B.m_list rfl (pda_cons (pd_var (i := 6) rfl (by first | exact Or.inl rfl | exact Or.inr (Or.inl rfl) | exact Or.inr (Or.inr rfl))) pda_nil))) (pd_lst (pl_bin op_rep od_rep (pd_lst (pl_disp (pda_cons (pd_tup (pda_cons pd_int (pda_cons pd_int pda_nil))) pda_nil))) (pd_bin op_sub od_sub (pd_var (i := 4) rfl (by first | exact Or.inl rfl | exact Or.inr (Or.inl rfl) | exact Or.inr (Or.inr rfl))) (pd_callB cr_lenA cd_len rfl B.m_len rfl (pda_cons (pd_var (i := 6) rfl (by first | exact Or.inl rfl | exact Or.inr (Or.inl rfl) | exact Or.inr (Or.inr rfl))) pda_nil))))))))
    (pdss_one (pds_ret (pd_call D__law_trimmed hg (hr.mono (by decide)) rfl hx (pda_cons (pd_lst (pl_comp (own := [("x", 7), ("y", 8)]) rfl rfl sc.nd (id_zip rfl B.m_zip (pda_cons (pd_ix (pd_var (i := 5) rfl (by first | exact Or.inl rfl | exact Or.inr (Or.inl rfl) | exact Or.inr (Or.inr rfl))) pd_int (fun _ _ => rfl)) (pda_cons (pd_ix (pd_var (i := 5) rfl (by first | exact Or.inl rfl | exact Or.inr (Or.inl rfl) | exact Or.inr (Or.inr rfl))) pd_int (fun _ _ => rfl)) pda_nil))) (blkOk_by (by first | rfl | kernel_rfl)) (fun _ _ _ _ _ => (gd_tup rfl (gds_cons (gd_name (i := 7) sc.nd rfl (by first | exact Or.inl rfl | exact Or.inr rfl)) (gds_cons (gd_name (i := 8) sc.nd rfl (by first | exact Or.inl rfl | exact Or.inr rfl)) gds_nil)))) (fun _ _ _ _ _ => ptsd_nil) (fun _ _ _ _ _ => (pd_call D__law_plus hg (hr.mono (by decide)) rfl passL (pda_cons (pd_call D__law_by hg (hr.mono (by decide)) rfl passL (pda_cons (pd_var (i := 1) rfl (by first | exact Or.inl rfl | exact Or.inr (Or.inl rfl) | exact Or.inr (Or.inr rfl))) (pda_cons (pd_var (i := 7) rfl (by first | exact Or.inl rfl | exact Or.inr (Or.inl rfl) | exact Or.inr (Or.inr rfl))) pda_nil))) (pda_cons (pd_call D__law_by hg (hr.mono (by decide)) rfl passL (pda_cons (pd_var (i := 3) rfl (by first | exact Or.inl rfl | exact Or.inr (Or.inl rfl) | exact Or.inr (Or.inr rfl))) (pda_cons (pd_var (i := 8) rfl (by first | exact Or.inl rfl | exact Or.inr (Or.inl rfl) | exact Or.inr (Or.inr rfl))) pda_nil))) pda_nil)))))) pda_nil))))))
theorem sc__law_product : FnScope ["one", "two", "found", "at", "a", "k", "b"] ["one", "two"] (defScope s__law_product) := ⟨rfl, rfl, rfl, by decide +kernel, rfl, by decide +kernel, by decide +kernel⟩
theorem ok__law_product {f : Addr} {fd : FuncData} (B : Bs K mg) (F : FnP K "_law_product" s__law_product f fd) (D__law_by : DefG P w K mg base 3 "_law_by" m__law_by) (D__law_plus : DefG P w K mg base 3 "_law_plus" m__law_plus) (D__law_trimmed : DefG P w K mg base 1 "_law_trimmed" m__law_trimmed) : FnG P w K mg base (L2.CX P w) 4 f fd ["one", "two"] (spD ⟨K, mg⟩ m__law_product) := by
  have sc := sc__law_product
  refine fn_mir (k := 3) F sc rfl fun cdv A outer s H E hr hg => ?_
  have hx : Passes (L2.CX P w) (cxOf (L2.CX P w) P w K mg base ["one", "two", "found", "at", "a", "k", "b"] "_law_product" (defScope s__law_product) f cdv A outer s H E) E := passes_call (takes_of rfl rfl rfl rfl) fun _ _ _ _ h => h
  have hp : PassesOwn (model P w) (cxOf (L2.CX P w) P w K mg base ["one", "two", "found", "at", "a", "k", "b"] "_law_product" (defScope s__law_product) f cdv A outer s H E).A (cxOf (L2.CX P w) P w K mg base ["one", "two", "found", "at", "a", "k", "b"] "_law_product" (defScope s__law_product) f cdv A outer s H E).env (cxOf (L2.CX P w) P w K mg base ["one", "two", "found", "at", "a", "k", "b"] "_law_product" (defScope s__law_product) f cdv A outer s H E).xe := passes_of rfl
  exact (pdss_cons (pds_own (i := 2) sc.nd rfl (by first | exact Or.inl rfl | exact Or.inr rfl) (pl_bin op_rep od_rep (pd_lst (pl_disp (pda_cons (pd_tup (pda_cons pd_int (pda_cons pd_int pda_nil))) pda_nil))) (pd_callB (call_max2 rfl) cd_max rfl B.m_max rfl (pda_cons pd_int (pda_cons (pd_bin op_sub od_sub (pd_bin op_addA od_add (pd_callB cr_lenA cd_len rfl B.m_len rfl (pda_cons (pd_var (i := 0) rfl (by first | exact Or.inl rfl | exact Or.inr (Or.inl rfl) | exact Or.inr (Or.inr rfl))) pda_nil)) (pd_callB cr_lenA cd_len rfl B.m_len rfl (pda_cons (pd_var (i := 1) rfl (by first | exact Or.inl rfl | exact Or.inr (Or.inl rfl) | exact Or.inr (Or.inr rfl))) pda_nil))) pd_int) pda_nil)))))
    (pdss_cons (pds_for hp rfl (id_enum rfl B.m_enumerate (pda_cons (pd_var (i := 0) rfl (by first | exact Or.inl rfl | exact Or.inr (Or.inl rfl) | exact Or.inr (Or.inr rfl))) pda_nil)) (gd_tup rfl (gds_cons (gd_name (i := 3) sc.nd rfl (by first | exact Or.inl rfl | exact Or.inr rfl)) (gds_cons (gd_name (i := 4) sc.nd rfl (by first | exact Or.inl rfl | exact Or.inr rfl)) gds_nil))) (pdss_one (pds_for hp rfl (id_enum rfl B.m_enumerate (pda_cons (pd_var (i := 1) rfl (by first | exact Or.inl rfl | exact Or.inr (Or.inl rfl) | exact Or.inr (Or.inr rfl))) pda_nil)) (gd_tup rfl (gds_cons (gd_name (i := 5) sc.nd rfl (by first | exact Or.inl rfl | exact Or.inr rfl)) (gds_cons (gd_name (i := 6) sc.nd rfl (by first | exact Or.inl rfl | exact Or.inr rfl)) gds_nil))) (pdss_one (pds_put (i := 2) rfl (by first | exact Or.inl rfl | exact Or.inr (Or.inl rfl) | exact Or.inr (Or.inr rfl)) (pd_bin op_addA od_add (pd_var (i := 3) rfl (by first | exact Or.inl rfl | exact Or.inr (Or.inl rfl) | exact Or.inr (Or.inr rfl))) (pd_var (i := 5) rfl (by first | exact Or.inl rfl | exact Or.inr (Or.inl rfl) | exact Or.inr (Or.inr rfl)))) (pd_call D__law_plus hg (hr.mono (by decide)) rfl hx (pda_cons (pd_ix (pd_var (i := 2) rfl (by first | exact Or.inl rfl | exact Or.inr (Or.inl rfl) | exact Or.inr (Or.inr rfl))) (pd_bin op_addA od_add (pd_var (i := 3) rfl (by first | exact Or.inl rfl | exact Or.inr (Or.inl rfl) | exact Or.inr (Or.inr rfl))) (pd_var (i := 5) rfl (by first | exact Or.inl rfl | exact Or.inr (Or.inl rfl) | exact Or.inr (Or.inr rfl)))) (fun _ _ => rfl)) (pda_cons (pd_call D__law_by hg (hr.mono (by decide)) rfl hx (pda_cons (pd_var (i := 4) rfl (by first | exact Or.inl rfl | exact Or.inr (Or.inl rfl) | exact Or.inr (Or.inr rfl))) (pda_cons (pd_var (i := 6) rfl (by first | exact Or.inl rfl | exact Or.inr (Or.inl rfl) | exact Or.inr (Or.inr rfl))) pda_nil))) pda_nil))))))))
    (pdss_one (pds_ret (pd_call D__law_trimmed hg (hr.mono (by decide)) rfl hx (pda_cons (pd_var (i := 2) rfl (by first | exact Or.inl rfl | exact Or.inr (Or.inl rfl) | exact Or.inr (Or.inr rfl))) pda_nil))))))
theorem sc__law_rise : FnScope ["poly", "at", "part"] ["poly"] (defScope s__law_rise) := ⟨rfl, rfl, rfl, by decide +kernel, rfl, by decide +kernel, by decide +kernel⟩
theorem ok__law_rise {f : Addr} {fd : FuncData} (B : Bs K mg) (F : FnP K "_law_rise" s__law_rise f fd) (D__law_by : DefG P w K mg base 3 "_law_by" m__law_by) (D__law_trimmed : DefG P w K mg base 1 "_law_trimmed" m__law_trimmed) : FnG P w K mg base (L2.CX P w) 4 f fd ["poly"] (spD ⟨K, mg⟩ m__law_rise) := by
  have sc := sc__law_rise
  refine fn_mir (k := 3) F sc rfl fun cdv A outer s H E hr hg => ?_
  have hx : Passes (L2.CX P w) (cxOf (L2.CX P w) P w K mg base ["poly", "at", "part"] "_law_rise" (defScope s__law_rise) f cdv A outer s H E) E := passes_call (takes_of rfl rfl rfl rfl) fun _ _ _ _ h => h
  have hp : PassesOwn (model P w) (cxOf (L2.CX P w) P w K mg base ["poly", "at", "part"] "_law_rise" (defScope s__law_rise) f cdv A outer s H E).A (cxOf (L2.CX P w) P w K mg base ["poly", "at", "part"] "_law_rise" (defScope s__law_rise) f cdv A outer s H E).env (cxOf (L2.CX P w) P w K mg base ["poly", "at", "part"] "_law_rise" (defScope s__law_rise) f cdv A outer s H E).xe := passes_of rfl
  exact (pdss_one (pds_ret (pd_call D__law_trimmed hg (hr.mono (by decide)) rfl hx (pda_cons (pd_sl (pd_lst (pl_comp (own := [("at", 1), ("part", 2)]) rfl rfl sc.nd (id_enum rfl B.m_enumerate (pda_cons (pd_var (i := 0) rfl (by first | exact Or.inl rfl | exact Or.inr (Or.inl rfl) | exact Or.inr (Or.inr rfl))) pda_nil)) (blkOk_by (by first | rfl | kernel_rfl)) (fun _ _ _ _ _ => (gd_tup rfl (gds_cons (gd_name (i := 1) sc.nd rfl (by first | exact Or.inl rfl | exact Or.inr rfl)) (gds_cons (gd_name (i := 2) sc.nd rfl (by first | exact Or.inl rfl | exact Or.inr rfl)) gds_nil)))) (fun _ _ _ _ _ => ptsd_nil) (fun _ _ _ _ _ => (pd_call D__law_by hg (hr.mono (by decide)) rfl passL (pda_cons (pd_tup (pda_cons (pd_var (i := 1) rfl (by first | exact Or.inl rfl | exact Or.inr (Or.inl rfl) | exact Or.inr (Or.inr rfl))) (pda_cons pd_int pda_nil))) (pda_cons (pd_var (i := 2) rfl (by first | exact Or.inl rfl | exact Or.inr (Or.inl rfl) | exact Or.inr (Or.inr rfl))) pda_nil)))))) (pdo_some pd_int) pdo_none) pda_nil))))
theorem sc__law_rooted : FnScope ["roots", "found", "root"] ["roots"] (defScope s__law_rooted) := ⟨rfl, rfl, rfl, by decide +kernel, rfl, by decide +kernel, by decide +kernel⟩
theorem ok__law_rooted {f : Addr} {fd : FuncData} (B : Bs K mg) (F : FnP K "_law_rooted" s__law_rooted f fd) (D__law_product : DefG P w K mg base 4 "_law_product" m__law_product) : FnG P w K mg base (L2.CX P w) 5 f fd ["roots"] (spD ⟨K, mg⟩ m__law_rooted) := by
  have sc := sc__law_rooted
  refine fn_mir (k := 4) F sc rfl fun cdv A outer s H E hr hg => ?_
  have hx : Passes (L2.CX P w) (cxOf (L2.CX P w) P w K mg base ["roots", "found", "root"] "_law_rooted" (defScope s__law_rooted) f cdv A outer s H E) E := passes_call (takes_of rfl rfl rfl rfl) fun _ _ _ _ h => h
  have hp : PassesOwn (model P w) (cxOf (L2.CX P w) P w K mg base ["roots", "found", "root"] "_law_rooted" (defScope s__law_rooted) f cdv A outer s H E).A (cxOf (L2.CX P w) P w K mg base ["roots", "found", "root"] "_law_rooted" (defScope s__law_rooted) f cdv A outer s H E).env (cxOf (L2.CX P w) P w K mg base ["roots", "found", "root"] "_law_rooted" (defScope s__law_rooted) f cdv A outer s H E).xe := passes_of rfl
  exact (pdss_cons (pds_set (pd_tup (pda_cons (pd_tup (pda_cons pd_int (pda_cons pd_int pda_nil))) pda_nil)) (gd_name (i := 1) sc.nd rfl (by first | exact Or.inl rfl | exact Or.inr rfl)))
    (pdss_cons (pds_for hp rfl (id_seq (pd_var (i := 0) rfl (by first | exact Or.inl rfl | exact Or.inr (Or.inl rfl) | exact Or.inr (Or.inr rfl)))) (gd_name (i := 2) sc.nd rfl (by first | exact Or.inl rfl | exact Or.inr rfl)) (pdss_one (pds_set (pd_call D__law_product hg (hr.mono (by decide)) rfl hx (pda_cons (pd_var (i := 1) rfl (by first | exact Or.inl rfl | exact Or.inr (Or.inl rfl) | exact Or.inr (Or.inr rfl))) (pda_cons (pd_tup (pda_cons (pd_tup (pda_cons (pd_bin op_sub od_sub pd_int (pd_ix (pd_var (i := 2) rfl (by first | exact Or.inl rfl | exact Or.inr (Or.inl rfl) | exact Or.inr (Or.inr rfl))) pd_int (fun _ _ => rfl))) (pda_cons (pd_ix (pd_var (i := 2) rfl (by first | exact Or.inl rfl | exact Or.inr (Or.inl rfl) | exact Or.inr (Or.inr rfl))) pd_int (fun _ _ => rfl)) pda_nil))) (pda_cons (pd_tup (pda_cons pd_int (pda_cons pd_int pda_nil))) pda_nil))) pda_nil))) (gd_name (i := 1) sc.nd rfl (by first | exact Or.inl rfl | exact Or.inr rfl)))))
    (pdss_one (pds_ret (pd_var (i := 1) rfl (by first | exact Or.inl rfl | exact Or.inr (Or.inl rfl) | exact Or.inr (Or.inr rfl)))))))
theorem sc__law_scaled : FnScope ["poly", "by", "part"] ["poly", "by"] (defScope s__law_scaled) := ⟨rfl, rfl, rfl, by decide +kernel, rfl, by decide +kernel, by decide +kernel⟩
theorem ok__law_scaled {f : Addr} {fd : FuncData} (B : Bs K mg) (F : FnP K "_law_scaled" s__law_scaled f fd) (D__law_by : DefG P w K mg base 3 "_law_by" m__law_by) (D__law_trimmed : DefG P w K mg base 1 "_law_trimmed" m__law_trimmed) : FnG P w K mg base (L2.CX P w) 4 f fd ["poly", "by"] (spD ⟨K, mg⟩ m__law_scaled) := by
  have sc := sc__law_scaled
  refine fn_mir (k := 3) F sc rfl fun cdv A outer s H E hr hg => ?_
  have hx : Passes (L2.CX P w) (cxOf (L2.CX P w) P w K mg base ["poly", "by", "part"] "_law_scaled" (defScope s__law_scaled) f cdv A outer s H E) E := passes_call (takes_of rfl rfl rfl rfl) fun _ _ _ _ h => h
  have hp : PassesOwn (model P w) (cxOf (L2.CX P w) P w K mg base ["poly", "by", "part"] "_law_scaled" (defScope s__law_scaled) f cdv A outer s H E).A (cxOf (L2.CX P w) P w K mg base ["poly", "by", "part"] "_law_scaled" (defScope s__law_scaled) f cdv A outer s H E).env (cxOf (L2.CX P w) P w K mg base ["poly", "by", "part"] "_law_scaled" (defScope s__law_scaled) f cdv A outer s H E).xe := passes_of rfl
  exact (pdss_one (pds_ret (pd_call D__law_trimmed hg (hr.mono (by decide)) rfl hx (pda_cons (pd_lst (pl_comp (own := [("part", 2)]) rfl rfl sc.nd (id_seq (pd_var (i := 0) rfl (by first | exact Or.inl rfl | exact Or.inr (Or.inl rfl) | exact Or.inr (Or.inr rfl)))) (blkOk_by (by first | rfl | kernel_rfl)) (fun _ _ _ _ _ => (gd_name (i := 2) sc.nd rfl (by first | exact Or.inl rfl | exact Or.inr rfl))) (fun _ _ _ _ _ => ptsd_nil) (fun _ _ _ _ _ => (pd_call D__law_by hg (hr.mono (by decide)) rfl passL (pda_cons (pd_var (i := 2) rfl (by first | exact Or.inl rfl | exact Or.inr (Or.inl rfl) | exact Or.inr (Or.inr rfl))) (pda_cons (pd_var (i := 1) rfl (by first | exact Or.inl rfl | exact Or.inr (Or.inl rfl) | exact Or.inr (Or.inr rfl))) pda_nil)))))) pda_nil))))
theorem sc__law_drawn_fraction : FnScope ["cask"] ["cask"] (defScope s__law_drawn_fraction) := ⟨rfl, rfl, rfl, by decide +kernel, rfl, by decide +kernel, by decide +kernel⟩
theorem ok__law_drawn_fraction {f : Addr} {fd : FuncData} (B : Bs K mg) (F : FnP K "_law_drawn_fraction" s__law_drawn_fraction f fd) (D__law_frac : DefG P w K mg base 2 "_law_frac" m__law_frac) (D__law_one_from : DefG P w K mg base 2 "_law_one_from" m__law_one_from) (D__law_tap : DefG P w K mg base 1 "_law_tap" m__law_tap) : FnG P w K mg base (L2.CX P w) 3 f fd ["cask"] (spD ⟨K, mg⟩ m__law_drawn_fraction) := by
  have sc := sc__law_drawn_fraction
  refine fn_mir (k := 2) F sc rfl fun cdv A outer s H E hr hg => ?_
  have hx : Passes (L2.CX P w) (cxOf (L2.CX P w) P w K mg base ["cask"] "_law_drawn_fraction" (defScope s__law_drawn_fraction) f cdv A outer s H E) E := passes_call (takes_of rfl rfl rfl rfl) fun _ _ _ _ h => h
  have hp : PassesOwn (model P w) (cxOf (L2.CX P w) P w K mg base ["cask"] "_law_drawn_fraction" (defScope s__law_drawn_fraction) f cdv A outer s H E).A (cxOf (L2.CX P w) P w K mg base ["cask"] "_law_drawn_fraction" (defScope s__law_drawn_fraction) f cdv A outer s H E).env (cxOf (L2.CX P w) P w K mg base ["cask"] "_law_drawn_fraction" (defScope s__law_drawn_fraction) f cdv A outer s H E).xe := passes_of rfl
  exact (pdss_one (pds_ret (pd_call D__law_frac hg (hr.mono (by decide)) rfl hx (pda_cons (pd_bin op_sub od_sub (pd_call D__law_tap hg (hr.mono (by decide)) rfl hx (pda_cons (pd_var (i := 0) rfl (by first | exact Or.inl rfl | exact Or.inr (Or.inl rfl) | exact Or.inr (Or.inr rfl))) (pda_cons pd_int pda_nil))) pd_int) (pda_cons (pd_call D__law_one_from hg (hr.mono (by decide)) rfl hx (pda_cons (pd_var (i := 0) rfl (by first | exact Or.inl rfl | exact Or.inr (Or.inl rfl) | exact Or.inr (Or.inr rfl))) (pda_cons (pd_tup (pda_cons pd_int (pda_cons pd_int (pda_cons pd_int (pda_cons pd_int (pda_cons pd_int pda_nil)))))) pda_nil))) pda_nil)))))
theorem sc__law_drawn_roots : FnScope ["cask", "many", "roots", "at"] ["cask", "many"] (defScope s__law_drawn_roots) := ⟨rfl, rfl, rfl, by decide +kernel, rfl, by decide +kernel, by decide +kernel⟩
theorem ok__law_drawn_roots {f : Addr} {fd : FuncData} (B : Bs K mg) (F : FnP K "_law_drawn_roots" s__law_drawn_roots f fd) (D__law_drawn_fraction : DefG P w K mg base 3 "_law_drawn_fraction" m__law_drawn_fraction) (D__law_tap : DefG P w K mg base 1 "_law_tap" m__law_tap) : FnG P w K mg base (L2.CX P w) 4 f fd ["cask", "many"] (spD ⟨K, mg⟩ m__law_drawn_roots) := by
  have sc := sc__law_drawn_roots
  refine fn_mir (k := 3) F sc rfl fun cdv A outer s H E hr hg => ?_
  have hx : Passes (L2.CX P w) (cxOf (L2.CX P w) P w K mg base ["cask", "many", "roots", "at"] "_law_drawn_roots" (defScope s__law_drawn_roots) f cdv A outer s H E) E := passes_call (takes_of rfl rfl rfl rfl) fun _ _ _ _ h => h
  have hp : PassesOwn (model P w) (cxOf (L2.CX P w) P w K mg base ["cask", "many", "roots", "at"] "_law_drawn_roots" (defScope s__law_drawn_roots) f cdv A outer s H E).A (cxOf (L2.CX P w) P w K mg base ["cask", "many", "roots", "at"] "_law_drawn_roots" (defScope s__law_drawn_roots) f cdv A outer s H E).env (cxOf (L2.CX P w) P w K mg base ["cask", "many", "roots", "at"] "_law_drawn_roots" (defScope s__law_drawn_roots) f cdv A outer s H E).xe := passes_of rfl
  exact (pdss_cons (by first | exact (pds_own (i := 2) sc.nd rfl (by first | exact Or.inl rfl | exact Or.inr rfl) (pl_comp (own := [("at", 3)]) rfl rfl sc.nd (id_range1 rfl B.m_range (pda_cons (pd_var (i := 1) rfl (by first | exact Or.inl rfl | exact Or.inr (Or.inl rfl) | exact Or.inr (Or.inr rfl))) pda_nil)) (blkOk_by (by first | rfl | kernel_rfl)) (fun _ _ _ _ _ => (gd_name (i := 3) sc.nd rfl (by first | exact Or.inl rfl | exact Or.inr rfl))) (fun _ _ _ _ _ => ptsd_nil) (fun _ _ _ _ _ => (pd_call D__law_drawn_fraction hg (hr.mono (by decide)) rfl passL (pda_cons (pd_var (i := 0) rfl (by first | exact Or.inl rfl | exact Or.inr (Or.inl rfl) | exact Or.inr (Or.inr rfl))) pda_nil))))) | exact pds_ownC sc.nd rfl rfl rfl (own := [("at", 3)]) rfl rfl (id_range1 rfl B.m_range (pda_cons (pd_var (i := 1) rfl (by first | exact Or.inl rfl | exact Or.inr (Or.inl rfl) | exact Or.inr (Or.inr rfl))) pda_nil)) (blkOk_by (by first | rfl | kernel_rfl)) (fun _ _ _ _ _ => (gd_name (i := 3) sc.nd rfl (by first | exact Or.inl rfl | exact Or.inr rfl))) (fun _ _ _ _ _ => ptsd_nil) (fun _ _ _ _ _ => (pd_call D__law_drawn_fraction hg (hr.mono (by decide)) rfl passL (pda_cons (pd_var (i := 0) rfl (by first | exact Or.inl rfl | exact Or.inr (Or.inl rfl) | exact Or.inr (Or.inr rfl))) pda_nil))))
    (pdss_cons (pds_if (ptd_of_w (pwd_and (ptd_cmp op_gt od_int (pd_var (i := 1) rfl (by first | exact Or.inl rfl | exact Or.inr (Or.inl rfl) | exact Or.inr (Or.inr rfl))) pd_int (by first | rfl | exact nomark _)) (pwd_and1 (ptd_cmp (op_eqD (room_eq hr)) od_eq (pd_call D__law_tap hg (hr.mono (by decide)) rfl hx (pda_cons (pd_var (i := 0) rfl (by first | exact Or.inl rfl | exact Or.inr (Or.inl rfl) | exact Or.inr (Or.inr rfl))) (pda_cons pd_int pda_nil))) pd_int (by first | rfl | exact nomark _))))) (pdss_one (pds_put (i := 2) rfl (by first | exact Or.inl rfl | exact Or.inr (Or.inl rfl) | exact Or.inr (Or.inr rfl)) pd_int (pd_ix (pd_var (i := 2) rfl (by first | exact Or.inl rfl | exact Or.inr (Or.inl rfl) | exact Or.inr (Or.inr rfl))) (pd_neg pd_int) (fun _ _ => rfl)))) pdss_nil)
    (pdss_one (pds_ret (pd_callTy cr_tupA cd_tup rfl B.m_tuple rfl (pda_cons (pd_var (i := 2) rfl (by first | exact Or.inl rfl | exact Or.inr (Or.inl rfl) | exact Or.inr (Or.inr rfl))) pda_nil))))))
theorem sc__law_bent : FnScope ["cask", "at", "high"] ["cask"] (defScope s__law_bent) := ⟨rfl, rfl, rfl, by decide +kernel, rfl, by decide +kernel, by decide +kernel⟩
theorem ok__law_bent {f : Addr} {fd : FuncData} (B : Bs K mg) (F : FnP K "_law_bent" s__law_bent f fd) (D__law_drawn_fraction : DefG P w K mg base 3 "_law_drawn_fraction" m__law_drawn_fraction) (D__law_frac : DefG P w K mg base 2 "_law_frac" m__law_frac) (D__law_mixed : DefG P w K mg base 4 "_law_mixed" m__law_mixed) (D__law_one_from : DefG P w K mg base 2 "_law_one_from" m__law_one_from) (D__law_product : DefG P w K mg base 4 "_law_product" m__law_product) (D__law_tap : DefG P w K mg base 1 "_law_tap" m__law_tap) : FnG P w K mg base (L2.CX P w) 5 f fd ["cask"] (spD ⟨K, mg⟩ m__law_bent) := by
  have sc := sc__law_bent
  refine fn_mir (k := 4) F sc rfl fun cdv A outer s H E hr hg => ?_
  have hx : Passes (L2.CX P w) (cxOf (L2.CX P w) P w K mg base ["cask", "at", "high"] "_law_bent" (defScope s__law_bent) f cdv A outer s H E) E := passes_call (takes_of rfl rfl rfl rfl) fun _ _ _ _ h => h
  have hp : PassesOwn (model P w) (cxOf (L2.CX P w) P w K mg base ["cask", "at", "high"] "_law_bent" (defScope s__law_bent) f cdv A outer s H E).A (cxOf (L2.CX P w) P w K mg base ["cask", "at", "high"] "_law_bent" (defScope s__law_bent) f cdv A outer s H E).env (cxOf (L2.CX P w) P w K mg base ["cask", "at", "high"] "_law_bent" (defScope s__law_bent) f cdv A outer s H E).xe := passes_of rfl
  exact (pdss_cons (pds_par2 rfl sc.nd rfl rfl (by decide) rfl rfl (pd_call D__law_drawn_fraction hg (hr.mono (by decide)) rfl hx (pda_cons (pd_var (i := 0) rfl (by first | exact Or.inl rfl | exact Or.inr (Or.inl rfl) | exact Or.inr (Or.inr rfl))) pda_nil)) (pd_call D__law_frac hg (hr.mono (by decide)) rfl hx (pda_cons (pd_bin op_addA od_add pd_int (pd_call D__law_tap hg (hr.mono (by decide)) rfl hx (pda_cons (pd_var (i := 0) rfl (by first | exact Or.inl rfl | exact Or.inr (Or.inl rfl) | exact Or.inr (Or.inr rfl))) (pda_cons pd_int pda_nil)))) (pda_cons (pd_call D__law_one_from hg (hr.mono (by decide)) rfl hx (pda_cons (pd_var (i := 0) rfl (by first | exact Or.inl rfl | exact Or.inr (Or.inl rfl) | exact Or.inr (Or.inr rfl))) (pda_cons (pd_tup (pda_cons pd_int (pda_cons pd_int (pda_cons pd_int pda_nil)))) pda_nil))) pda_nil))) rfl)
    (pdss_one (pds_ret (pd_call D__law_mixed hg (hr.mono (by decide)) rfl hx (pda_cons (pd_call D__law_product hg (hr.mono (by decide)) rfl hx (pda_cons (pd_tup (pda_cons (pd_tup (pda_cons (pd_bin op_sub od_sub pd_int (pd_ix (pd_var (i := 1) rfl (by first | exact Or.inl rfl | exact Or.inr (Or.inl rfl) | exact Or.inr (Or.inr rfl))) pd_int (fun _ _ => rfl))) (pda_cons (pd_ix (pd_var (i := 1) rfl (by first | exact Or.inl rfl | exact Or.inr (Or.inl rfl) | exact Or.inr (Or.inr rfl))) pd_int (fun _ _ => rfl)) pda_nil))) (pda_cons (pd_tup (pda_cons pd_int (pda_cons pd_int pda_nil))) pda_nil))) (pda_cons (pd_tup (pda_cons (pd_tup (pda_cons (pd_bin op_sub od_sub pd_int (pd_ix (pd_var (i := 1) rfl (by first | exact Or.inl rfl | exact Or.inr (Or.inl rfl) | exact Or.inr (Or.inr rfl))) pd_int (fun _ _ => rfl))) (pda_cons (pd_ix (pd_var (i := 1) rfl (by first | exact Or.inl rfl | exact Or.inr (Or.inl rfl) | exact Or.inr (Or.inr rfl))) pd_int (fun _ _ => rfl)) pda_nil))) (pda_cons (pd_tup (pda_cons pd_int (pda_cons pd_int pda_nil))) pda_nil))) pda_nil))) (pda_cons (pd_tup (pda_cons pd_int (pda_cons pd_int pda_nil))) (pda_cons (pd_tup (pda_cons (pd_var (i := 2) rfl (by first | exact Or.inl rfl | exact Or.inr (Or.inl rfl) | exact Or.inr (Or.inr rfl))) pda_nil)) (pda_cons (pd_tup (pda_cons pd_int (pda_cons pd_int pda_nil))) pda_nil))))))))
theorem sc__law_drawn_poly : FnScope ["cask", "most", "way", "size", "by", "at"] ["cask", "most"] (defScope s__law_drawn_poly) := ⟨rfl, rfl, rfl, by decide +kernel, rfl, by decide +kernel, by decide +kernel⟩
theorem ok__law_drawn_poly {f : Addr} {fd : FuncData} (B : Bs K mg) (F : FnP K "_law_drawn_poly" s__law_drawn_poly f fd) (D__law_bent : DefG P w K mg base 5 "_law_bent" m__law_bent) (D__law_drawn_fraction : DefG P w K mg base 3 "_law_drawn_fraction" m__law_drawn_fraction) (D__law_drawn_roots : DefG P w K mg base 4 "_law_drawn_roots" m__law_drawn_roots) (D__law_one_from : DefG P w K mg base 2 "_law_one_from" m__law_one_from) (D__law_product : DefG P w K mg base 4 "_law_product" m__law_product) (D__law_rooted : DefG P w K mg base 5 "_law_rooted" m__law_rooted) (D__law_scaled : DefG P w K mg base 4 "_law_scaled" m__law_scaled) (D__law_tap : DefG P w K mg base 1 "_law_tap" m__law_tap) (D__law_trimmed : DefG P w K mg base 1 "_law_trimmed" m__law_trimmed) : FnG P w K mg base (L2.CX P w) 6 f fd ["cask", "most"] (spD ⟨K, mg⟩ m__law_drawn_poly) := by
  have sc := sc__law_drawn_poly
  refine fn_mir (k := 5) F sc rfl fun cdv A outer s H E hr hg => ?_
  have hx : Passes (L2.CX P w) (cxOf (L2.CX P w) P w K mg base ["cask", "most", "way", "size", "by", "at"] "_law_drawn_poly" (defScope s__law_drawn_poly) f cdv A outer s H E) E := passes_call (takes_of rfl rfl rfl rfl) fun _ _ _ _ h => h
  have hp : PassesOwn (model P w) (cxOf (L2.CX P w) P w K mg base ["cask", "most", "way", "size", "by", "at"] "_law_drawn_poly" (defScope s__law_drawn_poly) f cdv A outer s H E).A (cxOf (L2.CX P w) P w K mg base ["cask", "most", "way", "size", "by", "at"] "_law_drawn_poly" (defScope s__law_drawn_poly) f cdv A outer s H E).env (cxOf (L2.CX P w) P w K mg base ["cask", "most", "way", "size", "by", "at"] "_law_drawn_poly" (defScope s__law_drawn_poly) f cdv A outer s H E).xe := passes_of rfl
  exact (pdss_cons (pds_par2 rfl sc.nd rfl rfl (by decide) rfl rfl (pd_call D__law_tap hg (hr.mono (by decide)) rfl hx (pda_cons (pd_var (i := 0) rfl (by first | exact Or.inl rfl | exact Or.inr (Or.inl rfl) | exact Or.inr (Or.inr rfl))) (pda_cons pd_int pda_nil))) (pd_call D__law_tap hg (hr.mono (by decide)) rfl hx (pda_cons (pd_var (i := 0) rfl (by first | exact Or.inl rfl | exact Or.inr (Or.inl rfl) | exact Or.inr (Or.inr rfl))) (pda_cons (pd_bin op_addA od_add (pd_var (i := 1) rfl (by first | exact Or.inl rfl | exact Or.inr (Or.inl rfl) | exact Or.inr (Or.inr rfl))) pd_int) pda_nil))) rfl)
    (pdss_cons (pds_set (pd_call D__law_one_from hg (hr.mono (by decide)) rfl hx (pda_cons (pd_var (i := 0) rfl (by first | exact Or.inl rfl | exact Or.inr (Or.inl rfl) | exact Or.inr (Or.inr rfl))) (pda_cons (pd_tup (pda_cons (pd_tup (pda_cons pd_int (pda_cons pd_int pda_nil))) (pda_cons (pd_tup (pda_cons (pd_neg pd_int) (pda_cons pd_int pda_nil))) (pda_cons (pd_tup (pda_cons pd_int (pda_cons pd_int pda_nil))) (pda_cons (pd_tup (pda_cons pd_int (pda_cons pd_int pda_nil))) (pda_cons (pd_tup (pda_cons (pd_neg pd_int) (pda_cons pd_int pda_nil))) pda_nil)))))) pda_nil))) (gd_name (i := 4) sc.nd rfl (by first | exact Or.inl rfl | exact Or.inr rfl)))
    (pdss_cons (pds_if (ptd_cmp (op_eqD (room_eq hr)) od_eq (pd_var (i := 2) rfl (by first | exact Or.inl rfl | exact Or.inr (Or.inl rfl) | exact Or.inr (Or.inr rfl))) pd_int (by first | rfl | exact nomark _)) (pdss_one (pds_ret (pd_call D__law_trimmed hg (hr.mono (by decide)) rfl hx (pda_cons (pd_lst (pl_comp (own := [("at", 5)]) rfl rfl sc.nd (id_range1 rfl B.m_range (pda_cons (pd_bin op_addA od_add (pd_var (i := 3) rfl (by first | exact Or.inl rfl | exact Or.inr (Or.inl rfl) | exact Or.inr (Or.inr rfl))) pd_int) pda_nil)) (blkOk_by (by first | rfl | kernel_rfl)) (fun _ _ _ _ _ => (gd_name (i := 5) sc.nd rfl (by first | exact Or.inl rfl | exact Or.inr rfl))) (fun _ _ _ _ _ => ptsd_nil) (fun _ _ _ _ _ => (pd_call D__law_drawn_fraction hg (hr.mono (by decide)) rfl passL (pda_cons (pd_var (i := 0) rfl (by first | exact Or.inl rfl | exact Or.inr (Or.inl rfl) | exact Or.inr (Or.inr rfl))) pda_nil))))) pda_nil)))) pdss_nil)
    (pdss_cons (pds_if (ptd_of_w (pwd_and (ptd_cmp op_lt od_int (pd_var (i := 2) rfl (by first | exact Or.inl rfl | exact Or.inr (Or.inl rfl) | exact Or.inr (Or.inr rfl))) pd_int (by first | rfl | exact nomark _)) (pwd_and1 (ptd_cmp op_gt od_int (pd_var (i := 3) rfl (by first | exact Or.inl rfl | exact Or.inr (Or.inl rfl) | exact Or.inr (Or.inr rfl))) pd_int (by first | rfl | exact nomark _))))) (pdss_one (pds_ret (pd_call D__law_scaled hg (hr.mono (by decide)) rfl hx (pda_cons (pd_call D__law_product hg (hr.mono (by decide)) rfl hx (pda_cons (pd_call D__law_rooted hg (hr.mono (by decide)) rfl hx (pda_cons (pd_call D__law_drawn_roots hg (hr.mono (by decide)) rfl hx (pda_cons (pd_var (i := 0) rfl (by first | exact Or.inl rfl | exact Or.inr (Or.inl rfl) | exact Or.inr (Or.inr rfl))) (pda_cons (pd_bin op_sub od_sub (pd_var (i := 3) rfl (by first | exact Or.inl rfl | exact Or.inr (Or.inl rfl) | exact Or.inr (Or.inr rfl))) pd_int) pda_nil))) pda_nil)) (pda_cons (pd_call D__law_bent hg (hr.mono (by decide)) rfl hx (pda_cons (pd_var (i := 0) rfl (by first | exact Or.inl rfl | exact Or.inr (Or.inl rfl) | exact Or.inr (Or.inr rfl))) pda_nil)) pda_nil))) (pda_cons (pd_var (i := 4) rfl (by first | exact Or.inl rfl | exact Or.inr (Or.inl rfl) | exact Or.inr (Or.inr rfl))) pda_nil))))) pdss_nil)
    (pdss_one (pds_ret (pd_call D__law_scaled hg (hr.mono (by decide)) rfl hx (pda_cons (pd_call D__law_rooted hg (hr.mono (by decide)) rfl hx (pda_cons (pd_call D__law_drawn_roots hg (hr.mono (by decide)) rfl hx (pda_cons (pd_var (i := 0) rfl (by first | exact Or.inl rfl | exact Or.inr (Or.inl rfl) | exact Or.inr (Or.inr rfl))) (pda_cons (pd_var (i := 3) rfl (by first | exact Or.inl rfl | exact Or.inr (Or.inl rfl) | exact Or.inr (Or.inr rfl))) pda_nil))) pda_nil)) (pda_cons (pd_var (i := 4) rfl (by first | exact Or.inl rfl | exact Or.inr (Or.inl rfl) | exact Or.inr (Or.inr rfl))) pda_nil)))))))))
theorem sc__law_is_making : FnScope ["most", "value", "part"] ["most", "value"] (defScope s__law_is_making) := ⟨rfl, rfl, rfl, by decide +kernel, rfl, by decide +kernel, by decide +kernel⟩
theorem ok__law_is_making {f : Addr} {fd : FuncData} (B : Bs K mg) (F : FnP K "_law_is_making" s__law_is_making f fd) (D__law_is_fraction : DefG P w K mg base 2 "_law_is_fraction" m__law_is_fraction) : FnG P w K mg base (L2.CX P w) 3 f fd ["most", "value"] (spD ⟨K, mg⟩ m__law_is_making) := by
  have sc := sc__law_is_making
  refine fn_mir (k := 2) F sc rfl fun cdv A outer s H E hr hg => ?_
  have hx : Passes (L2.CX P w) (cxOf (L2.CX P w) P w K mg base ["most", "value", "part"] "_law_is_making" (defScope s__law_is_making) f cdv A outer s H E) E := passes_call (takes_of rfl rfl rfl rfl) fun _ _ _ _ h => h
  have hp : PassesOwn (model P w) (cxOf (L2.CX P w) P w K mg base ["most", "value", "part"] "_law_is_making" (defScope s__law_is_making) f cdv A outer s H E).A (cxOf (L2.CX P w) P w K mg base ["most", "value", "part"] "_law_is_making" (defScope s__law_is_making) f cdv A outer s H E).env (cxOf (L2.CX P w) P w K mg base ["most", "value", "part"] "_law_is_making" (defScope s__law_is_making) f cdv A outer s H E).xe := passes_of rfl
  exact (pdss_cons (pds_if (ptd_of_w (pwd_or (ptd_not (ptd_val (pd_callB call_isi cd_isi rfl B.m_isinstance rfl (pda_cons (pd_var (i := 1) rfl (by first | exact Or.inl rfl | exact Or.inr (Or.inl rfl) | exact Or.inr (Or.inr rfl))) (pda_cons (pd_ty (n := "tuple") rfl B.m_tuple rfl) pda_nil))))) (pwd_or (ptd_cmp (op_neD (room_eq hr)) od_ne (pd_callB cr_lenA cd_len rfl B.m_len rfl (pda_cons (pd_var (i := 1) rfl (by first | exact Or.inl rfl | exact Or.inr (Or.inl rfl) | exact Or.inr (Or.inr rfl))) pda_nil)) pd_int (by first | rfl | exact nomark _)) (pwd_or (ptd_not (ptd_val (pd_callB call_isi cd_isi rfl B.m_isinstance rfl (pda_cons (pd_ix (pd_var (i := 1) rfl (by first | exact Or.inl rfl | exact Or.inr (Or.inl rfl) | exact Or.inr (Or.inr rfl))) pd_int (fun _ _ => rfl)) (pda_cons (pd_ty (n := "str") rfl B.m_str rfl) pda_nil))))) (pwd_or (ptd_cmp op_notIn_seq od_in (pd_ix (pd_var (i := 1) rfl (by first | exact Or.inl rfl | exact Or.inr (Or.inl rfl) | exact Or.inr (Or.inr rfl))) pd_int (fun _ _ => rfl)) (pd_tup (pda_cons pd_str (pda_cons pd_str pda_nil))) (by first | rfl | exact nomark _)) (pwd_or1 (ptd_not (ptd_val (pd_callB call_isi cd_isi rfl B.m_isinstance rfl (pda_cons (pd_ix (pd_var (i := 1) rfl (by first | exact Or.inl rfl | exact Or.inr (Or.inl rfl) | exact Or.inr (Or.inr rfl))) pd_int (fun _ _ => rfl)) (pda_cons (pd_ty (n := "tuple") rfl B.m_tuple rfl) pda_nil))))))))))) (pdss_one (pds_ret pd_bl)) pdss_nil)
    (pdss_one (pds_ret (pd_and (pd_cmp (op_eqD (room_eq hr)) od_eq (pd_callB cr_lenA cd_len rfl B.m_len rfl (pda_cons (pd_ix (pd_var (i := 1) rfl (by first | exact Or.inl rfl | exact Or.inr (Or.inl rfl) | exact Or.inr (Or.inr rfl))) pd_int (fun _ _ => rfl)) pda_nil)) (pd_bin op_addA od_add (pd_var (i := 0) rfl (by first | exact Or.inl rfl | exact Or.inr (Or.inl rfl) | exact Or.inr (Or.inr rfl))) pd_int) (by first | rfl | exact nomark _)) (pd_one (pd_cmp (op_eqD (room_eq hr)) od_eq (pd_lst (pl_comp (own := [("part", 2)]) rfl rfl sc.nd (id_seq (pd_ix (pd_var (i := 1) rfl (by first | exact Or.inl rfl | exact Or.inr (Or.inl rfl) | exact Or.inr (Or.inr rfl))) pd_int (fun _ _ => rfl))) (blkOk_by (by first | rfl | kernel_rfl)) (fun _ _ _ _ _ => (gd_name (i := 2) sc.nd rfl (by first | exact Or.inl rfl | exact Or.inr rfl))) (fun _ _ _ _ _ => (ptsd_one (ptd_not (ptd_val (pd_call D__law_is_fraction hg (hr.mono (by decide)) rfl passL (pda_cons (pd_var (i := 2) rfl (by first | exact Or.inl rfl | exact Or.inr (Or.inl rfl) | exact Or.inr (Or.inr rfl))) pda_nil)))))) (fun _ _ _ _ _ => pd_int))) (pd_lst (pl_disp pda_nil)) (by first | rfl | exact nomark _)))))))
theorem sc__law_made : FnScope ["making", "poly", "by", "part", "found", "here"] ["making", "poly"] (defScope s__law_made) := ⟨rfl, rfl, rfl, by decide +kernel, rfl, by decide +kernel, by decide +kernel⟩
theorem ok__law_made {f : Addr} {fd : FuncData} (B : Bs K mg) (F : FnP K "_law_made" s__law_made f fd) (D__law_by : DefG P w K mg base 3 "_law_by" m__law_by) (D__law_mixed : DefG P w K mg base 4 "_law_mixed" m__law_mixed) (D__law_rise : DefG P w K mg base 4 "_law_rise" m__law_rise) (D__law_trimmed : DefG P w K mg base 1 "_law_trimmed" m__law_trimmed) : FnG P w K mg base (L2.CX P w) 5 f fd ["making", "poly"] (spD ⟨K, mg⟩ m__law_made) := by
  have sc := sc__law_made
  refine fn_mir (k := 4) F sc rfl fun cdv A outer s H E hr hg => ?_
  have hx : Passes (L2.CX P w) (cxOf (L2.CX P w) P w K mg base ["making", "poly", "by", "part", "found", "here"] "_law_made" (defScope s__law_made) f cdv A outer s H E) E := passes_call (takes_of rfl rfl rfl rfl) fun _ _ _ _ h => h
  have hp : PassesOwn (model P w) (cxOf (L2.CX P w) P w K mg base ["making", "poly", "by", "part", "found", "here"] "_law_made" (defScope s__law_made) f cdv A outer s H E).A (cxOf (L2.CX P w) P w K mg base ["making", "poly", "by", "part", "found", "here"] "_law_made" (defScope s__law_made) f cdv A outer s H E).env (cxOf (L2.CX P w) P w K mg base ["making", "poly", "by", "part", "found", "here"] "_law_made" (defScope s__law_made) f cdv A outer s H E).xe := passes_of rfl
  exact (pdss_cons (pds_if (ptd_cmp (op_eqD (room_eq hr)) od_eq (pd_ix (pd_var (i := 0) rfl (by first | exact Or.inl rfl | exact Or.inr (Or.inl rfl) | exact Or.inr (Or.inr rfl))) pd_int (fun _ _ => rfl)) pd_str (by first | rfl | exact nomark _)) (pdss_one (pds_ret (pd_call D__law_trimmed hg (hr.mono (by decide)) rfl hx (pda_cons (pd_lst (pl_comp (own := [("by", 2), ("part", 3)]) rfl rfl sc.nd (id_zip rfl B.m_zip (pda_cons (pd_ix (pd_var (i := 0) rfl (by first | exact Or.inl rfl | exact Or.inr (Or.inl rfl) | exact Or.inr (Or.inr rfl))) pd_int (fun _ _ => rfl)) (pda_cons (pd_var (i := 1) rfl (by first | exact Or.inl rfl | exact Or.inr (Or.inl rfl) | exact Or.inr (Or.inr rfl))) pda_nil))) (blkOk_by (by first | rfl | kernel_rfl)) (fun _ _ _ _ _ => (gd_tup rfl (gds_cons (gd_name (i := 2) sc.nd rfl (by first | exact Or.inl rfl | exact Or.inr rfl)) (gds_cons (gd_name (i := 3) sc.nd rfl (by first | exact Or.inl rfl | exact Or.inr rfl)) gds_nil)))) (fun _ _ _ _ _ => ptsd_nil) (fun _ _ _ _ _ => (pd_call D__law_by hg (hr.mono (by decide)) rfl passL (pda_cons (pd_var (i := 2) rfl (by first | exact Or.inl rfl | exact Or.inr (Or.inl rfl) | exact Or.inr (Or.inr rfl))) (pda_cons (pd_var (i := 3) rfl (by first | exact Or.inl rfl | exact Or.inr (Or.inl rfl) | exact Or.inr (Or.inr rfl))) pda_nil)))))) pda_nil)))) pdss_nil)
    (pdss_cons (pds_par2 rfl sc.nd rfl rfl (by decide) rfl rfl (pd_tup pda_nil) (pd_var (i := 1) rfl (by first | exact Or.inl rfl | exact Or.inr (Or.inl rfl) | exact Or.inr (Or.inr rfl))) rfl)
    (pdss_cons (pds_for hp rfl (id_seq (pd_ix (pd_var (i := 0) rfl (by first | exact Or.inl rfl | exact Or.inr (Or.inl rfl) | exact Or.inr (Or.inr rfl))) pd_int (fun _ _ => rfl))) (gd_name (i := 2) sc.nd rfl (by first | exact Or.inl rfl | exact Or.inr rfl)) (pdss_one (pds_par2 rfl sc.nd rfl rfl (by decide) rfl rfl (pd_call D__law_mixed hg (hr.mono (by decide)) rfl hx (pda_cons (pd_var (i := 4) rfl (by first | exact Or.inl rfl | exact Or.inr (Or.inl rfl) | exact Or.inr (Or.inr rfl))) (pda_cons (pd_tup (pda_cons pd_int (pda_cons pd_int pda_nil))) (pda_cons (pd_var (i := 5) rfl (by first | exact Or.inl rfl | exact Or.inr (Or.inl rfl) | exact Or.inr (Or.inr rfl))) (pda_cons (pd_var (i := 2) rfl (by first | exact Or.inl rfl | exact Or.inr (Or.inl rfl) | exact Or.inr (Or.inr rfl))) pda_nil))))) (pd_call D__law_rise hg (hr.mono (by decide)) rfl hx (pda_cons (pd_var (i := 5) rfl (by first | exact Or.inl rfl | exact Or.inr (Or.inl rfl) | exact Or.inr (Or.inr rfl))) pda_nil)) rfl)))
    (pdss_one (pds_ret (pd_var (i := 4) rfl (by first | exact Or.inl rfl | exact Or.inr (Or.inl rfl) | exact Or.inr (Or.inr rfl))))))))
theorem sc__law_drawn_making : FnScope ["cask", "most", "at"] ["cask", "most"] (defScope s__law_drawn_making) := ⟨rfl, rfl, rfl, by decide +kernel, rfl, by decide +kernel, by decide +kernel⟩
theorem ok__law_drawn_making {f : Addr} {fd : FuncData} (B : Bs K mg) (F : FnP K "_law_drawn_making" s__law_drawn_making f fd) (D__law_drawn_fraction : DefG P w K mg base 3 "_law_drawn_fraction" m__law_drawn_fraction) (D__law_one_from : DefG P w K mg base 2 "_law_one_from" m__law_one_from) (D__law_tap : DefG P w K mg base 1 "_law_tap" m__law_tap) : FnG P w K mg base (L2.CX P w) 4 f fd ["cask", "most"] (spD ⟨K, mg⟩ m__law_drawn_making) := by
  have sc := sc__law_drawn_making
  refine fn_mir (k := 3) F sc rfl fun cdv A outer s H E hr hg => ?_
  have hx : Passes (L2.CX P w) (cxOf (L2.CX P w) P w K mg base ["cask", "most", "at"] "_law_drawn_making" (defScope s__law_drawn_making) f cdv A outer s H E) E := passes_call (takes_of rfl rfl rfl rfl) fun _ _ _ _ h => h
  have hp : PassesOwn (model P w) (cxOf (L2.CX P w) P w K mg base ["cask", "most", "at"] "_law_drawn_making" (defScope s__law_drawn_making) f cdv A outer s H E).A (cxOf (L2.CX P w) P w K mg base ["cask", "most", "at"] "_law_drawn_making" (defScope s__law_drawn_making) f cdv A outer s H E).env (cxOf (L2.CX P w) P w K mg base ["cask", "most", "at"] "_law_drawn_making" (defScope s__law_drawn_making) f cdv A outer s H E).xe := passes_of rfl
  exact (pdss_one (pds_ret (pd_tup (pda_cons (pd_call D__law_one_from hg (hr.mono (by decide)) rfl hx (pda_cons (pd_var (i := 0) rfl (by first | exact Or.inl rfl | exact Or.inr (Or.inl rfl) | exact Or.inr (Or.inr rfl))) (pda_cons (pd_tup (pda_cons pd_str (pda_cons pd_str pda_nil))) pda_nil))) (pda_cons (pd_callTy cr_tupA cd_tup rfl B.m_tuple rfl (pda_cons (pd_lst (pl_comp (own := [("at", 2)]) rfl rfl sc.nd (id_range1 rfl B.m_range (pda_cons (pd_bin op_addA od_add (pd_var (i := 1) rfl (by first | exact Or.inl rfl | exact Or.inr (Or.inl rfl) | exact Or.inr (Or.inr rfl))) pd_int) pda_nil)) (blkOk_by (by first | rfl | kernel_rfl)) (fun _ _ _ _ _ => (gd_name (i := 2) sc.nd rfl (by first | exact Or.inl rfl | exact Or.inr rfl))) (fun _ _ _ _ _ => ptsd_nil) (fun _ _ _ _ _ => (pd_if (ptd_cmp op_gt od_int (pd_call D__law_tap hg (hr.mono (by decide)) rfl passL (pda_cons (pd_var (i := 0) rfl (by first | exact Or.inl rfl | exact Or.inr (Or.inl rfl) | exact Or.inr (Or.inr rfl))) (pda_cons pd_int pda_nil))) pd_int (by first | rfl | exact nomark _)) (pd_call D__law_drawn_fraction hg (hr.mono (by decide)) rfl passL (pda_cons (pd_var (i := 0) rfl (by first | exact Or.inl rfl | exact Or.inr (Or.inl rfl) | exact Or.inr (Or.inr rfl))) pda_nil)) (pd_tup (pda_cons pd_int (pda_cons pd_int pda_nil))))))) pda_nil)) pda_nil)))))
theorem sc__law_near : FnScope ["cask", "making", "word", "numbers", "at", "found", "odd"] ["cask", "making"] (defScope s__law_near) := ⟨rfl, rfl, rfl, by decide +kernel, rfl, by decide +kernel, by decide +kernel⟩
theorem ok__law_near {f : Addr} {fd : FuncData} (B : Bs K mg) (F : FnP K "_law_near" s__law_near f fd) (D__law_tap : DefG P w K mg base 1 "_law_tap" m__law_tap) : FnG P w K mg base (L2.CX P w) 2 f fd ["cask", "making"] (spD ⟨K, mg⟩ m__law_near) := by
  have sc := sc__law_near
  refine fn_mir (k := 1) F sc rfl fun cdv A outer s H E hr hg => ?_
  have hx : Passes (L2.CX P w) (cxOf (L2.CX P w) P w K mg base ["cask", "making", "word", "numbers", "at", "found", "odd"] "_law_near" (defScope s__law_near) f cdv A outer s H E) E := passes_call (takes_of rfl rfl rfl rfl) fun _ _ _ _ h => h
  have hp : PassesOwn (model P w) (cxOf (L2.CX P w) P w K mg base ["cask", "making", "word", "numbers", "at", "found", "odd"] "_law_near" (defScope s__law_near) f cdv A outer s H E).A (cxOf (L2.CX P w) P w K mg base ["cask", "making", "word", "numbers", "at", "found", "odd"] "_law_near" (defScope s__law_near) f cdv A outer s H E).env (cxOf (L2.CX P w) P w K mg base ["cask", "making", "word", "numbers", "at", "found", "odd"] "_law_near" (defScope s__law_near) f cdv A outer s H E).xe := passes_of rfl
  exact (pdss_cons (pds_set (pd_var (i := 1) rfl (by first | exact Or.inl rfl | exact Or.inr (Or.inl rfl) | exact Or.inr (Or.inr rfl))) (gd_tup rfl (gds_cons (gd_name (i := 2) sc.nd rfl (by first | exact Or.inl rfl | exact Or.inr rfl)) (gds_cons (gd_name (i := 3) sc.nd rfl (by first | exact Or.inl rfl | exact Or.inr rfl)) gds_nil))))
    (pdss_cons (pds_set (pd_call D__law_tap hg (hr.mono (by decide)) rfl hx (pda_cons (pd_var (i := 0) rfl (by first | exact Or.inl rfl | exact Or.inr (Or.inl rfl) | exact Or.inr (Or.inr rfl))) (pda_cons (pd_callB cr_lenA cd_len rfl B.m_len rfl (pda_cons (pd_var (i := 3) rfl (by first | exact Or.inl rfl | exact Or.inr (Or.inl rfl) | exact Or.inr (Or.inr rfl))) pda_nil)) pda_nil))) (gd_name (i := 4) sc.nd rfl (by first | exact Or.inl rfl | exact Or.inr rfl)))
    (pdss_cons (pds_own (i := 5) sc.nd rfl (by first | exact Or.inl rfl | exact Or.inr rfl) (pl_disp (pda_cons (pd_var (i := 1) rfl (by first | exact Or.inl rfl | exact Or.inr (Or.inl rfl) | exact Or.inr (Or.inr rfl))) (pda_cons (pd_lst (pl_list rfl B.m_list rfl (pda_cons (pd_var (i := 1) rfl (by first | exact Or.inl rfl | exact Or.inr (Or.inl rfl) | exact Or.inr (Or.inr rfl))) pda_nil))) (pda_cons (pd_tup (pda_cons (pd_var (i := 2) rfl (by first | exact Or.inl rfl | exact Or.inr (Or.inl rfl) | exact Or.inr (Or.inr rfl))) pda_nil)) (pda_cons (pd_tup (pda_cons (pd_var (i := 2) rfl (by first | exact Or.inl rfl | exact Or.inr (Or.inl rfl) | exact Or.inr (Or.inr rfl))) (pda_cons (pd_var (i := 3) rfl (by first | exact Or.inl rfl | exact Or.inr (Or.inl rfl) | exact Or.inr (Or.inr rfl))) (pda_cons (pd_tup pda_nil) pda_nil)))) (pda_cons (pd_tup (pda_cons (pd_var (i := 2) rfl (by first | exact Or.inl rfl | exact Or.inr (Or.inl rfl) | exact Or.inr (Or.inr rfl))) (pda_cons (pd_lst (pl_list rfl B.m_list rfl (pda_cons (pd_var (i := 3) rfl (by first | exact Or.inl rfl | exact Or.inr (Or.inl rfl) | exact Or.inr (Or.inr rfl))) pda_nil))) pda_nil))) (pda_cons (pd_tup (pda_cons (pd_var (i := 2) rfl (by first | exact Or.inl rfl | exact Or.inr (Or.inl rfl) | exact Or.inr (Or.inr rfl))) (pda_cons (pd_bin op_addA od_add (pd_var (i := 3) rfl (by first | exact Or.inl rfl | exact Or.inr (Or.inl rfl) | exact Or.inr (Or.inr rfl))) (pd_tup (pda_cons (pd_tup (pda_cons pd_int (pda_cons pd_int pda_nil))) pda_nil))) pda_nil))) (pda_cons (pd_tup (pda_cons (pd_var (i := 2) rfl (by first | exact Or.inl rfl | exact Or.inr (Or.inl rfl) | exact Or.inr (Or.inr rfl))) (pda_cons (pd_sl (pd_var (i := 3) rfl (by first | exact Or.inl rfl | exact Or.inr (Or.inl rfl) | exact Or.inr (Or.inr rfl))) (pdo_some pd_int) pdo_none) pda_nil))) (pda_cons (pd_tup (pda_cons (pd_var (i := 3) rfl (by first | exact Or.inl rfl | exact Or.inr (Or.inl rfl) | exact Or.inr (Or.inr rfl))) (pda_cons (pd_var (i := 2) rfl (by first | exact Or.inl rfl | exact Or.inr (Or.inl rfl) | exact Or.inr (Or.inr rfl))) pda_nil))) pda_nil))))))))))
    (pdss_cons (pds_own (i := 5) sc.nd rfl (by first | exact Or.inl rfl | exact Or.inr rfl) (pl_bin op_cat od_cat (pd_var (i := 5) rfl (by first | exact Or.inl rfl | exact Or.inr (Or.inl rfl) | exact Or.inr (Or.inr rfl))) (pd_lst (pl_disp (pda_cons (pd_tup (pda_cons pd_str (pda_cons (pd_var (i := 3) rfl (by first | exact Or.inl rfl | exact Or.inr (Or.inl rfl) | exact Or.inr (Or.inr rfl))) pda_nil))) (pda_cons (pd_tup (pda_cons pd_str (pda_cons (pd_var (i := 3) rfl (by first | exact Or.inl rfl | exact Or.inr (Or.inl rfl) | exact Or.inr (Or.inr rfl))) pda_nil))) (pda_cons (pd_tup (pda_cons pd_non (pda_cons (pd_var (i := 3) rfl (by first | exact Or.inl rfl | exact Or.inr (Or.inl rfl) | exact Or.inr (Or.inr rfl))) pda_nil))) (pda_cons (pd_tup (pda_cons (pd_var (i := 2) rfl (by first | exact Or.inl rfl | exact Or.inr (Or.inl rfl) | exact Or.inr (Or.inr rfl))) (pda_cons pd_non pda_nil))) (pda_cons pd_non (pda_cons pd_int (pda_cons pd_str (pda_cons (pd_tup pda_nil) (pda_cons pd_dct pda_nil)))))))))))))
    (pdss_cons (pds_expr (pd_app (i := 5) rfl (by first | exact Or.inl rfl | exact Or.inr (Or.inl rfl) | exact Or.inr (Or.inr rfl)) (pd_tup (pda_cons (pd_if (ptd_cmp (op_eqD (room_eq hr)) od_eq (pd_var (i := 2) rfl (by first | exact Or.inl rfl | exact Or.inr (Or.inl rfl) | exact Or.inr (Or.inr rfl))) pd_str (by first | rfl | exact nomark _)) pd_str pd_str) (pda_cons (pd_var (i := 3) rfl (by first | exact Or.inl rfl | exact Or.inr (Or.inl rfl) | exact Or.inr (Or.inr rfl))) pda_nil)))))
    (pdss_one (pds_ret (pd_bin op_addA od_add (pd_var (i := 5) rfl (by first | exact Or.inl rfl | exact Or.inr (Or.inl rfl) | exact Or.inr (Or.inr rfl))) (pd_lst (pl_comp (own := [("odd", 6)]) rfl rfl sc.nd (id_seq (pd_tup (pda_cons (pd_tup (pda_cons pd_int (pda_cons pd_int pda_nil))) (pda_cons (pd_tup (pda_cons pd_int (pda_cons pd_int pda_nil))) (pda_cons (pd_tup (pda_cons pd_int (pda_cons (pd_neg pd_int) pda_nil))) (pda_cons pd_non (pda_cons pd_int (pda_cons (pd_tup (pda_cons pd_bl (pda_cons pd_int pda_nil))) (pda_cons (pd_lst (pl_disp (pda_cons pd_int (pda_cons pd_int pda_nil)))) (pda_cons (pd_tup (pda_cons pd_int (pda_cons pd_int pda_nil))) (pda_cons (pd_tup (pda_cons pd_int (pda_cons pd_int pda_nil))) (pda_cons (pd_tup (pda_cons pd_int (pda_cons pd_int (pda_cons pd_int pda_nil)))) pda_nil)))))))))))) (blkOk_by (by first | rfl | kernel_rfl)) (fun _ _ _ _ _ => (gd_name (i := 6) sc.nd rfl (by first | exact Or.inl rfl | exact Or.inr rfl))) (fun _ _ _ _ _ => ptsd_nil) (fun _ _ _ _ _ => (pd_tup (pda_cons (pd_var (i := 2) rfl (by first | exact Or.inl rfl | exact Or.inr (Or.inl rfl) | exact Or.inr (Or.inr rfl))) (pda_cons (pd_bin op_addA od_add (pd_bin op_addA od_add (pd_sl (pd_var (i := 3) rfl (by first | exact Or.inl rfl | exact Or.inr (Or.inl rfl) | exact Or.inr (Or.inr rfl))) pdo_none (pdo_some (pd_var (i := 4) rfl (by first | exact Or.inl rfl | exact Or.inr (Or.inl rfl) | exact Or.inr (Or.inr rfl))))) (pd_tup (pda_cons (pd_var (i := 6) rfl (by first | exact Or.inl rfl | exact Or.inr (Or.inl rfl) | exact Or.inr (Or.inr rfl))) pda_nil))) (pd_sl (pd_var (i := 3) rfl (by first | exact Or.inl rfl | exact Or.inr (Or.inl rfl) | exact Or.inr (Or.inr rfl))) (pdo_some (pd_bin op_addA od_add (pd_var (i := 4) rfl (by first | exact Or.inl rfl | exact Or.inr (Or.inl rfl) | exact Or.inr (Or.inr rfl))) pd_int)) pdo_none)) pda_nil))))))))))))))
theorem sc__law_right : FnScope ["cask", "go", "most", "making", "value", "one", "two", "told", "base"] ["cask"] (defScope s__law_right) := ⟨rfl, rfl, rfl, by decide +kernel, rfl, by decide +kernel, by decide +kernel⟩
theorem ok__law_right {f : Addr} {fd : FuncData} (B : Bs K mg) (F : FnP K "_law_right" s__law_right f fd) (D__law_alike : DefG P w K mg base 1 "_law_alike" m__law_alike) (D__law_drawn_making : DefG P w K mg base 4 "_law_drawn_making" m__law_drawn_making) (D__law_drawn_poly : DefG P w K mg base 6 "_law_drawn_poly" m__law_drawn_poly) (D__law_is_making : DefG P w K mg base 3 "_law_is_making" m__law_is_making) (D__law_made : DefG P w K mg base 5 "_law_made" m__law_made) (D__law_near : DefG P w K mg base 2 "_law_near" m__law_near) (D__law_rooted : DefG P w K mg base 5 "_law_rooted" m__law_rooted) (D__law_tap : DefG P w K mg base 1 "_law_tap" m__law_tap) (D_is_making : DefG P w K mg base 5 "is_making" m_is_making) (D_made : DefG P w K mg base 6 "made" m_made) (D_poly_sum : DefG P w K mg base 7 "poly_sum" m_poly_sum) (D_symbol : DefG P w K mg base 6 "symbol" m_symbol) (K_2 : KwG P w K mg base 5 "is_making" m_is_making ["value", "most"] [1, 0]) (K_0 : KwG P w K mg base 6 "made" m_made ["poly", "making", "most"] [2, 1, 0]) (K_1 : KwG P w K mg base 6 "symbol" m_symbol ["making", "most"] [1, 0]) : FnG P w K mg base (L2.CX P w) 8 f fd ["cask"] (spD ⟨K, mg⟩ m__law_right) := by
  have sc := sc__law_right
  refine fn_mir (k := 7) F sc rfl fun cdv A outer s H E hr hg => ?_
  have hx : Passes (L2.CX P w) (cxOf (L2.CX P w) P w K mg base ["cask", "go", "most", "making", "value", "one", "two", "told", "base"] "_law_right" (defScope s__law_right) f cdv A outer s H E) E := passes_call (takes_of rfl rfl rfl rfl) fun _ _ _ _ h => h
  have hp : PassesOwn (model P w) (cxOf (L2.CX P w) P w K mg base ["cask", "go", "most", "making", "value", "one", "two", "told", "base"] "_law_right" (defScope s__law_right) f cdv A outer s H E).A (cxOf (L2.CX P w) P w K mg base ["cask", "go", "most", "making", "value", "one", "two", "told", "base"] "_law_right" (defScope s__law_right) f cdv A outer s H E).env (cxOf (L2.CX P w) P w K mg base ["cask", "go", "most", "making", "value", "one", "two", "told", "base"] "_law_right" (defScope s__law_right) f cdv A outer s H E).xe := passes_of rfl
  exact (pdss_cons (pds_for hp rfl (id_range1 rfl B.m_range (pda_cons pd_int pda_nil)) (gd_name (i := 1) sc.nd rfl (by first | exact Or.inl rfl | exact Or.inr rfl)) (pdss_cons (pds_set (pd_bin op_addA od_add pd_int (pd_call D__law_tap hg (hr.mono (by decide)) rfl hx (pda_cons (pd_var (i := 0) rfl (by first | exact Or.inl rfl | exact Or.inr (Or.inl rfl) | exact Or.inr (Or.inr rfl))) (pda_cons pd_int pda_nil)))) (gd_name (i := 2) sc.nd rfl (by first | exact Or.inl rfl | exact Or.inr rfl)))
    (pdss_cons (pds_set (pd_call D__law_drawn_making hg (hr.mono (by decide)) rfl hx (pda_cons (pd_var (i := 0) rfl (by first | exact Or.inl rfl | exact Or.inr (Or.inl rfl) | exact Or.inr (Or.inr rfl))) (pda_cons (pd_var (i := 2) rfl (by first | exact Or.inl rfl | exact Or.inr (Or.inl rfl) | exact Or.inr (Or.inr rfl))) pda_nil))) (gd_name (i := 3) sc.nd rfl (by first | exact Or.inl rfl | exact Or.inr rfl)))
    (pdss_cons (pds_for hp rfl (id_seq (pd_call D__law_near hg (hr.mono (by decide)) rfl hx (pda_cons (pd_var (i := 0) rfl (by first | exact Or.inl rfl | exact Or.inr (Or.inl rfl) | exact Or.inr (Or.inr rfl))) (pda_cons (pd_var (i := 3) rfl (by first | exact Or.inl rfl | exact Or.inr (Or.inl rfl) | exact Or.inr (Or.inr rfl))) pda_nil)))) (gd_name (i := 4) sc.nd rfl (by first | exact Or.inl rfl | exact Or.inr rfl)) (pdss_one (pds_if (ptd_not (ptd_val (pd_call D__law_alike hg (hr.mono (by decide)) rfl hx (pda_cons (pd_if (ptd_cmp (op_eqD (room_eq hr)) od_eq (pd_call D__law_tap hg (hr.mono (by decide)) rfl hx (pda_cons (pd_var (i := 0) rfl (by first | exact Or.inl rfl | exact Or.inr (Or.inl rfl) | exact Or.inr (Or.inr rfl))) (pda_cons pd_int pda_nil))) pd_int (by first | rfl | exact nomark _)) (pd_call D_is_making hg (hr.mono (by decide)) rfl hx (pda_cons (pd_var (i := 2) rfl (by first | exact Or.inl rfl | exact Or.inr (Or.inl rfl) | exact Or.inr (Or.inr rfl))) (pda_cons (pd_var (i := 4) rfl (by first | exact Or.inl rfl | exact Or.inr (Or.inl rfl) | exact Or.inr (Or.inr rfl))) pda_nil))) (pd_callK K_2 hg (hr.mono (by decide)) rfl hx (pdk_cons (pd_var (i := 4) rfl (by first | exact Or.inl rfl | exact Or.inr (Or.inl rfl) | exact Or.inr (Or.inr rfl))) (pdk_cons (pd_var (i := 2) rfl (by first | exact Or.inl rfl | exact Or.inr (Or.inl rfl) | exact Or.inr (Or.inr rfl))) pdk_nil)))) (pda_cons (pd_call D__law_is_making hg (hr.mono (by decide)) rfl hx (pda_cons (pd_var (i := 2) rfl (by first | exact Or.inl rfl | exact Or.inr (Or.inl rfl) | exact Or.inr (Or.inr rfl))) (pda_cons (pd_var (i := 4) rfl (by first | exact Or.inl rfl | exact Or.inr (Or.inl rfl) | exact Or.inr (Or.inr rfl))) pda_nil))) pda_nil))))) (pdss_one (pds_ret pd_bl)) pdss_nil)))
    (pdss_cons (pds_if (ptd_cmp op_isnotA od_isnot (pd_call D_is_making hg (hr.mono (by decide)) rfl hx (pda_cons (pd_if (ptd_cmp op_lt od_int (pd_var (i := 2) rfl (by first | exact Or.inl rfl | exact Or.inr (Or.inl rfl) | exact Or.inr (Or.inr rfl))) pd_int (by first | rfl | exact nomark _)) (pd_bin op_addA od_add (pd_var (i := 2) rfl (by first | exact Or.inl rfl | exact Or.inr (Or.inl rfl) | exact Or.inr (Or.inr rfl))) pd_int) pd_int) (pda_cons (pd_var (i := 3) rfl (by first | exact Or.inl rfl | exact Or.inr (Or.inl rfl) | exact Or.inr (Or.inr rfl))) pda_nil))) pd_bl (by first | rfl | exact nomark _)) (pdss_one (pds_ret pd_bl)) pdss_nil)
    (pdss_cons (pds_par2 rfl sc.nd rfl rfl (by decide) rfl rfl (pd_call D__law_drawn_poly hg (hr.mono (by decide)) rfl hx (pda_cons (pd_var (i := 0) rfl (by first | exact Or.inl rfl | exact Or.inr (Or.inl rfl) | exact Or.inr (Or.inr rfl))) (pda_cons (pd_var (i := 2) rfl (by first | exact Or.inl rfl | exact Or.inr (Or.inl rfl) | exact Or.inr (Or.inr rfl))) pda_nil))) (pd_call D__law_drawn_poly hg (hr.mono (by decide)) rfl hx (pda_cons (pd_var (i := 0) rfl (by first | exact Or.inl rfl | exact Or.inr (Or.inl rfl) | exact Or.inr (Or.inr rfl))) (pda_cons (pd_var (i := 2) rfl (by first | exact Or.inl rfl | exact Or.inr (Or.inl rfl) | exact Or.inr (Or.inr rfl))) pda_nil))) rfl)
    (pdss_cons (pds_set (pd_if (ptd_cmp (op_eqD (room_eq hr)) od_eq (pd_call D__law_tap hg (hr.mono (by decide)) rfl hx (pda_cons (pd_var (i := 0) rfl (by first | exact Or.inl rfl | exact Or.inr (Or.inl rfl) | exact Or.inr (Or.inr rfl))) (pda_cons pd_int pda_nil))) pd_int (by first | rfl | exact nomark _)) (pd_call D_made hg (hr.mono (by decide)) rfl hx (pda_cons (pd_var (i := 2) rfl (by first | exact Or.inl rfl | exact Or.inr (Or.inl rfl) | exact Or.inr (Or.inr rfl))) (pda_cons (pd_var (i := 3) rfl (by first | exact Or.inl rfl | exact Or.inr (Or.inl rfl) | exact Or.inr (Or.inr rfl))) (pda_cons (pd_var (i := 5) rfl (by first | exact Or.inl rfl | exact Or.inr (Or.inl rfl) | exact Or.inr (Or.inr rfl))) pda_nil)))) (pd_callK K_0 hg (hr.mono (by decide)) rfl hx (pdk_cons (pd_var (i := 5) rfl (by first | exact Or.inl rfl | exact Or.inr (Or.inl rfl) | exact Or.inr (Or.inr rfl))) (pdk_cons (pd_var (i := 3) rfl (by first | exact Or.inl rfl | exact Or.inr (Or.inl rfl) | exact Or.inr (Or.inr rfl))) (pdk_cons (pd_var (i := 2) rfl (by first | exact Or.inl rfl | exact Or.inr (Or.inl rfl) | exact Or.inr (Or.inr rfl))) pdk_nil))))) (gd_name (i := 7) sc.nd rfl (by first | exact Or.inl rfl | exact Or.inr rfl)))
    (pdss_cons (pds_if (ptd_not (ptd_val (pd_call D__law_alike hg (hr.mono (by decide)) rfl hx (pda_cons (pd_tup (pda_cons (pd_var (i := 7) rfl (by first | exact Or.inl rfl | exact Or.inr (Or.inl rfl) | exact Or.inr (Or.inr rfl))) (pda_cons (pd_call D_made hg (hr.mono (by decide)) rfl hx (pda_cons (pd_var (i := 2) rfl (by first | exact Or.inl rfl | exact Or.inr (Or.inl rfl) | exact Or.inr (Or.inr rfl))) (pda_cons (pd_var (i := 3) rfl (by first | exact Or.inl rfl | exact Or.inr (Or.inl rfl) | exact Or.inr (Or.inr rfl))) (pda_cons (pd_var (i := 6) rfl (by first | exact Or.inl rfl | exact Or.inr (Or.inl rfl) | exact Or.inr (Or.inr rfl))) pda_nil)))) pda_nil))) (pda_cons (pd_tup (pda_cons (pd_call D__law_made hg (hr.mono (by decide)) rfl hx (pda_cons (pd_var (i := 3) rfl (by first | exact Or.inl rfl | exact Or.inr (Or.inl rfl) | exact Or.inr (Or.inr rfl))) (pda_cons (pd_var (i := 5) rfl (by first | exact Or.inl rfl | exact Or.inr (Or.inl rfl) | exact Or.inr (Or.inr rfl))) pda_nil))) (pda_cons (pd_call D__law_made hg (hr.mono (by decide)) rfl hx (pda_cons (pd_var (i := 3) rfl (by first | exact Or.inl rfl | exact Or.inr (Or.inl rfl) | exact Or.inr (Or.inr rfl))) (pda_cons (pd_var (i := 6) rfl (by first | exact Or.inl rfl | exact Or.inr (Or.inl rfl) | exact Or.inr (Or.inr rfl))) pda_nil))) pda_nil))) pda_nil))))) (pdss_one (pds_ret pd_bl)) pdss_nil)
    (pdss_cons (pds_if (ptd_of_w (pwd_or (ptd_cmp (op_neD (room_eq hr)) od_ne (pd_call D_made hg (hr.mono (by decide)) rfl hx (pda_cons (pd_var (i := 2) rfl (by first | exact Or.inl rfl | exact Or.inr (Or.inl rfl) | exact Or.inr (Or.inr rfl))) (pda_cons (pd_var (i := 3) rfl (by first | exact Or.inl rfl | exact Or.inr (Or.inl rfl) | exact Or.inr (Or.inr rfl))) (pda_cons (pd_call D_poly_sum hg (hr.mono (by decide)) rfl hx (pda_cons (pd_var (i := 5) rfl (by first | exact Or.inl rfl | exact Or.inr (Or.inl rfl) | exact Or.inr (Or.inr rfl))) (pda_cons (pd_var (i := 6) rfl (by first | exact Or.inl rfl | exact Or.inr (Or.inl rfl) | exact Or.inr (Or.inr rfl))) pda_nil))) pda_nil)))) (pd_call D_poly_sum hg (hr.mono (by decide)) rfl hx (pda_cons (pd_var (i := 7) rfl (by first | exact Or.inl rfl | exact Or.inr (Or.inl rfl) | exact Or.inr (Or.inr rfl))) (pda_cons (pd_call D_made hg (hr.mono (by decide)) rfl hx (pda_cons (pd_var (i := 2) rfl (by first | exact Or.inl rfl | exact Or.inr (Or.inl rfl) | exact Or.inr (Or.inr rfl))) (pda_cons (pd_var (i := 3) rfl (by first | exact Or.inl rfl | exact Or.inr (Or.inl rfl) | exact Or.inr (Or.inr rfl))) (pda_cons (pd_var (i := 6) rfl (by first | exact Or.inl rfl | exact Or.inr (Or.inl rfl) | exact Or.inr (Or.inr rfl))) pda_nil)))) pda_nil))) (by first | rfl | exact nomark _)) (pwd_or1 (ptd_cmp (op_neD (room_eq hr)) od_ne (pd_call D_made hg (hr.mono (by decide)) rfl hx (pda_cons (pd_var (i := 2) rfl (by first | exact Or.inl rfl | exact Or.inr (Or.inl rfl) | exact Or.inr (Or.inr rfl))) (pda_cons (pd_tup (pda_cons (pd_ix (pd_var (i := 3) rfl (by first | exact Or.inl rfl | exact Or.inr (Or.inl rfl) | exact Or.inr (Or.inr rfl))) pd_int (fun _ _ => rfl)) (pda_cons (pd_bin op_mulA od_mul (pd_tup (pda_cons (pd_tup (pda_cons pd_int (pda_cons pd_int pda_nil))) pda_nil)) (pd_bin op_addA od_add (pd_var (i := 2) rfl (by first | exact Or.inl rfl | exact Or.inr (Or.inl rfl) | exact Or.inr (Or.inr rfl))) pd_int)) pda_nil))) (pda_cons (pd_var (i := 5) rfl (by first | exact Or.inl rfl | exact Or.inr (Or.inl rfl) | exact Or.inr (Or.inr rfl))) pda_nil)))) (pd_tup pda_nil) (by first | rfl | exact nomark _))))) (pdss_one (pds_ret pd_bl)) pdss_nil)
    (pdss_cons (pds_set (pd_if (ptd_cmp (op_eqD (room_eq hr)) od_eq (pd_ix (pd_var (i := 3) rfl (by first | exact Or.inl rfl | exact Or.inr (Or.inl rfl) | exact Or.inr (Or.inr rfl))) pd_int (fun _ _ => rfl)) pd_str (by first | rfl | exact nomark _)) (pd_call D__law_rooted hg (hr.mono (by decide)) rfl hx (pda_cons (pd_bin op_mulA od_mul (pd_tup (pda_cons (pd_tup (pda_cons (pd_neg pd_int) (pda_cons pd_int pda_nil))) pda_nil)) (pd_var (i := 2) rfl (by first | exact Or.inl rfl | exact Or.inr (Or.inl rfl) | exact Or.inr (Or.inr rfl)))) pda_nil)) (pd_bin op_addA od_add (pd_bin op_mulA od_mul (pd_tup (pda_cons (pd_tup (pda_cons pd_int (pda_cons pd_int pda_nil))) pda_nil)) (pd_var (i := 2) rfl (by first | exact Or.inl rfl | exact Or.inr (Or.inl rfl) | exact Or.inr (Or.inr rfl)))) (pd_tup (pda_cons (pd_tup (pda_cons pd_int (pda_cons pd_int pda_nil))) pda_nil)))) (gd_name (i := 8) sc.nd rfl (by first | exact Or.inl rfl | exact Or.inr rfl)))
    (pdss_one (pds_if (ptd_not (ptd_val (pd_call D__law_alike hg (hr.mono (by decide)) rfl hx (pda_cons (pd_if (ptd_cmp (op_eqD (room_eq hr)) od_eq (pd_call D__law_tap hg (hr.mono (by decide)) rfl hx (pda_cons (pd_var (i := 0) rfl (by first | exact Or.inl rfl | exact Or.inr (Or.inl rfl) | exact Or.inr (Or.inr rfl))) (pda_cons pd_int pda_nil))) pd_int (by first | rfl | exact nomark _)) (pd_call D_symbol hg (hr.mono (by decide)) rfl hx (pda_cons (pd_var (i := 2) rfl (by first | exact Or.inl rfl | exact Or.inr (Or.inl rfl) | exact Or.inr (Or.inr rfl))) (pda_cons (pd_var (i := 3) rfl (by first | exact Or.inl rfl | exact Or.inr (Or.inl rfl) | exact Or.inr (Or.inr rfl))) pda_nil))) (pd_callK K_1 hg (hr.mono (by decide)) rfl hx (pdk_cons (pd_var (i := 3) rfl (by first | exact Or.inl rfl | exact Or.inr (Or.inl rfl) | exact Or.inr (Or.inr rfl))) (pdk_cons (pd_var (i := 2) rfl (by first | exact Or.inl rfl | exact Or.inr (Or.inl rfl) | exact Or.inr (Or.inr rfl))) pdk_nil)))) (pda_cons (pd_call D__law_made hg (hr.mono (by decide)) rfl hx (pda_cons (pd_var (i := 3) rfl (by first | exact Or.inl rfl | exact Or.inr (Or.inl rfl) | exact Or.inr (Or.inr rfl))) (pda_cons (pd_var (i := 8) rfl (by first | exact Or.inl rfl | exact Or.inr (Or.inl rfl) | exact Or.inr (Or.inr rfl))) pda_nil))) pda_nil))))) (pdss_one (pds_ret pd_bl)) pdss_nil))))))))))))
    (pdss_one (pds_ret pd_bl)))
theorem sc_law : FnScope ["script", "lap", "one", "zero", "cross", "gap", "cut", "down", "told"] ["script"] (defScope s_law) := ⟨rfl, rfl, rfl, by decide +kernel, rfl, by decide +kernel, by decide +kernel⟩
theorem ok_law {f : Addr} {fd : FuncData} (B : Bs K mg) (F : FnP K "law" s_law f fd) (D__law_cask : DefG P w K mg base 1 "_law_cask" m__law_cask) (D__law_right : DefG P w K mg base 8 "_law_right" m__law_right) (D_made : DefG P w K mg base 6 "made" m_made) (D_symbol : DefG P w K mg base 6 "symbol" m_symbol) : FnG P w K mg base (L2.CX P w) 9 f fd ["script"] (spD ⟨K, mg⟩ m_law) := by
  have sc := sc_law
  refine fn_mir (k := 8) F sc rfl fun cdv A outer s H E hr hg => ?_
  have hx : Passes (L2.CX P w) (cxOf (L2.CX P w) P w K mg base ["script", "lap", "one", "zero", "cross", "gap", "cut", "down", "told"] "law" (defScope s_law) f cdv A outer s H E) E := passes_call (takes_of rfl rfl rfl rfl) fun _ _ _ _ h => h
  have hp : PassesOwn (model P w) (cxOf (L2.CX P w) P w K mg base ["script", "lap", "one", "zero", "cross", "gap", "cut", "down", "told"] "law" (defScope s_law) f cdv A outer s H E).A (cxOf (L2.CX P w) P w K mg base ["script", "lap", "one", "zero", "cross", "gap", "cut", "down", "told"] "law" (defScope s_law) f cdv A outer s H E).env (cxOf (L2.CX P w) P w K mg base ["script", "lap", "one", "zero", "cross", "gap", "cut", "down", "told"] "law" (defScope s_law) f cdv A outer s H E).xe := passes_of rfl
  exact (pdss_cons (pds_for hp rfl (id_range1 rfl B.m_range (pda_cons (pd_callB (call_min2 rfl) cd_min rfl B.m_min rfl (pda_cons pd_int (pda_cons (pd_callB (call_max2 rfl) cd_max rfl B.m_max rfl (pda_cons pd_int (pda_cons (pd_callB cr_lenA cd_len rfl B.m_len rfl (pda_cons (pd_var (i := 0) rfl (by first | exact Or.inl rfl | exact Or.inr (Or.inl rfl) | exact Or.inr (Or.inr rfl))) pda_nil)) pda_nil))) pda_nil))) pda_nil)) (gd_name (i := 1) sc.nd rfl (by first | exact Or.inl rfl | exact Or.inr rfl)) (pdss_one (pds_if (ptd_not (ptd_val (pd_callL D__law_right hg (hr.mono (by decide)) rfl hx (pl_call D__law_cask hg (hr.mono (by decide)) rfl hx (pda_cons (pd_var (i := 0) rfl (by first | exact Or.inl rfl | exact Or.inr (Or.inl rfl) | exact Or.inr (Or.inr rfl))) (pda_cons (pd_var (i := 1) rfl (by first | exact Or.inl rfl | exact Or.inr (Or.inl rfl) | exact Or.inr (Or.inr rfl))) pda_nil)))))) (pdss_one (pds_ret pd_bl)) pdss_nil)))
    (pdss_cons (pds_set (pd_tup (pda_cons (pd_tup (pda_cons pd_int (pda_cons pd_int pda_nil))) (pda_cons (pd_tup (pda_cons pd_int (pda_cons pd_int pda_nil))) (pda_cons (pd_tup (pda_cons (pd_tup (pda_cons (pd_neg pd_int) (pda_cons pd_int pda_nil))) (pda_cons (pd_tup (pda_cons pd_int (pda_cons pd_int pda_nil))) (pda_cons (pd_tup (pda_cons pd_int (pda_cons pd_int pda_nil))) pda_nil)))) pda_nil)))) (gd_tup rfl (gds_cons (gd_name (i := 2) sc.nd rfl (by first | exact Or.inl rfl | exact Or.inr rfl)) (gds_cons (gd_name (i := 3) sc.nd rfl (by first | exact Or.inl rfl | exact Or.inr rfl)) (gds_cons (gd_name (i := 4) sc.nd rfl (by first | exact Or.inl rfl | exact Or.inr rfl)) gds_nil)))))
    (pdss_cons (pds_par3 rfl sc.nd rfl rfl rfl (by decide) (by decide) (by decide) rfl rfl rfl (pd_tup (pda_cons pd_str (pda_cons (pd_tup (pda_cons (pd_var (i := 2) rfl (by first | exact Or.inl rfl | exact Or.inr (Or.inl rfl) | exact Or.inr (Or.inr rfl))) (pda_cons (pd_var (i := 3) rfl (by first | exact Or.inl rfl | exact Or.inr (Or.inl rfl) | exact Or.inr (Or.inr rfl))) (pda_cons (pd_var (i := 2) rfl (by first | exact Or.inl rfl | exact Or.inr (Or.inl rfl) | exact Or.inr (Or.inr rfl))) pda_nil)))) pda_nil))) (pd_tup (pda_cons pd_str (pda_cons (pd_tup (pda_cons (pd_var (i := 2) rfl (by first | exact Or.inl rfl | exact Or.inr (Or.inl rfl) | exact Or.inr (Or.inr rfl))) (pda_cons (pd_var (i := 2) rfl (by first | exact Or.inl rfl | exact Or.inr (Or.inl rfl) | exact Or.inr (Or.inr rfl))) (pda_cons (pd_tup (pda_cons (pd_neg pd_int) (pda_cons pd_int pda_nil))) pda_nil)))) pda_nil))) (pd_tup (pda_cons pd_str (pda_cons (pd_tup (pda_cons (pd_var (i := 2) rfl (by first | exact Or.inl rfl | exact Or.inr (Or.inl rfl) | exact Or.inr (Or.inr rfl))) (pda_cons (pd_var (i := 3) rfl (by first | exact Or.inl rfl | exact Or.inr (Or.inl rfl) | exact Or.inr (Or.inr rfl))) (pda_cons (pd_tup (pda_cons (pd_neg pd_int) (pda_cons pd_int pda_nil))) pda_nil)))) pda_nil))) rfl)
    (pdss_cons (pds_set (pd_lst (pl_disp (pda_cons (pd_call D_symbol hg (hr.mono (by decide)) rfl hx (pda_cons pd_int (pda_cons (pd_var (i := 5) rfl (by first | exact Or.inl rfl | exact Or.inr (Or.inl rfl) | exact Or.inr (Or.inr rfl))) pda_nil))) (pda_cons (pd_call D_made hg (hr.mono (by decide)) rfl hx (pda_cons pd_int (pda_cons (pd_var (i := 6) rfl (by first | exact Or.inl rfl | exact Or.inr (Or.inl rfl) | exact Or.inr (Or.inr rfl))) (pda_cons (pd_var (i := 4) rfl (by first | exact Or.inl rfl | exact Or.inr (Or.inl rfl) | exact Or.inr (Or.inr rfl))) pda_nil)))) (pda_cons (pd_call D_made hg (hr.mono (by decide)) rfl hx (pda_cons pd_int (pda_cons (pd_tup (pda_cons pd_str (pda_cons (pd_tup (pda_cons (pd_var (i := 2) rfl (by first | exact Or.inl rfl | exact Or.inr (Or.inl rfl) | exact Or.inr (Or.inr rfl))) (pda_cons (pd_var (i := 3) rfl (by first | exact Or.inl rfl | exact Or.inr (Or.inl rfl) | exact Or.inr (Or.inr rfl))) (pda_cons (pd_var (i := 2) rfl (by first | exact Or.inl rfl | exact Or.inr (Or.inl rfl) | exact Or.inr (Or.inr rfl))) pda_nil)))) pda_nil))) (pda_cons (pd_var (i := 4) rfl (by first | exact Or.inl rfl | exact Or.inr (Or.inl rfl) | exact Or.inr (Or.inr rfl))) pda_nil)))) (pda_cons (pd_call D_symbol hg (hr.mono (by decide)) rfl hx (pda_cons pd_int (pda_cons (pd_var (i := 7) rfl (by first | exact Or.inl rfl | exact Or.inr (Or.inl rfl) | exact Or.inr (Or.inr rfl))) pda_nil))) (pda_cons (pd_call D_made hg (hr.mono (by decide)) rfl hx (pda_cons pd_int (pda_cons (pd_var (i := 7) rfl (by first | exact Or.inl rfl | exact Or.inr (Or.inl rfl) | exact Or.inr (Or.inr rfl))) (pda_cons (pd_tup (pda_cons (pd_tup (pda_cons pd_int (pda_cons pd_int pda_nil))) (pda_cons (pd_tup (pda_cons pd_int (pda_cons pd_int pda_nil))) pda_nil))) pda_nil)))) pda_nil))))))) (gd_name (i := 8) sc.nd rfl (by first | exact Or.inl rfl | exact Or.inr rfl)))
    (pdss_cons (pds_set (pd_bin op_addA od_add (pd_var (i := 8) rfl (by first | exact Or.inl rfl | exact Or.inr (Or.inl rfl) | exact Or.inr (Or.inr rfl))) (pd_lst (pl_disp (pda_cons (pd_call D_made hg (hr.mono (by decide)) rfl hx (pda_cons pd_int (pda_cons (pd_tup (pda_cons pd_str (pda_cons (pd_tup (pda_cons (pd_var (i := 3) rfl (by first | exact Or.inl rfl | exact Or.inr (Or.inl rfl) | exact Or.inr (Or.inr rfl))) (pda_cons (pd_var (i := 2) rfl (by first | exact Or.inl rfl | exact Or.inr (Or.inl rfl) | exact Or.inr (Or.inr rfl))) (pda_cons (pd_var (i := 3) rfl (by first | exact Or.inl rfl | exact Or.inr (Or.inl rfl) | exact Or.inr (Or.inr rfl))) pda_nil)))) pda_nil))) (pda_cons (pd_var (i := 4) rfl (by first | exact Or.inl rfl | exact Or.inr (Or.inl rfl) | exact Or.inr (Or.inr rfl))) pda_nil)))) (pda_cons (pd_call D_made hg (hr.mono (by decide)) rfl hx (pda_cons pd_int (pda_cons (pd_tup (pda_cons pd_str (pda_cons (pd_tup (pda_cons (pd_var (i := 3) rfl (by first | exact Or.inl rfl | exact Or.inr (Or.inl rfl) | exact Or.inr (Or.inr rfl))) (pda_cons (pd_var (i := 2) rfl (by first | exact Or.inl rfl | exact Or.inr (Or.inl rfl) | exact Or.inr (Or.inr rfl))) pda_nil))) pda_nil))) (pda_cons (pd_tup (pda_cons (pd_var (i := 2) rfl (by first | exact Or.inl rfl | exact Or.inr (Or.inl rfl) | exact Or.inr (Or.inr rfl))) pda_nil)) pda_nil)))) pda_nil))))) (gd_name (i := 8) sc.nd rfl (by first | exact Or.inl rfl | exact Or.inr rfl)))
    (pdss_one (pds_ret (pd_cmp (op_eqD (room_eq hr)) od_eq (pd_var (i := 8) rfl (by first | exact Or.inl rfl | exact Or.inr (Or.inl rfl) | exact Or.inr (Or.inr rfl))) (pd_lst (pl_disp (pda_cons (pd_tup (pda_cons (pd_tup (pda_cons pd_int (pda_cons pd_int pda_nil))) (pda_cons (pd_tup (pda_cons pd_int (pda_cons pd_int pda_nil))) (pda_cons (pd_tup (pda_cons pd_int (pda_cons pd_int pda_nil))) pda_nil)))) (pda_cons (pd_tup (pda_cons (pd_tup (pda_cons (pd_neg pd_int) (pda_cons pd_int pda_nil))) (pda_cons (pd_tup (pda_cons pd_int (pda_cons pd_int pda_nil))) (pda_cons (pd_tup (pda_cons (pd_neg pd_int) (pda_cons pd_int pda_nil))) pda_nil)))) (pda_cons (pd_tup (pda_cons (pd_tup (pda_cons pd_int (pda_cons pd_int pda_nil))) (pda_cons (pd_tup (pda_cons pd_int (pda_cons pd_int pda_nil))) (pda_cons (pd_tup (pda_cons pd_int (pda_cons pd_int pda_nil))) pda_nil)))) (pda_cons (pd_tup (pda_cons (pd_tup (pda_cons (pd_neg pd_int) (pda_cons pd_int pda_nil))) (pda_cons (pd_tup (pda_cons pd_int (pda_cons pd_int pda_nil))) (pda_cons (pd_tup (pda_cons pd_int (pda_cons pd_int pda_nil))) pda_nil)))) (pda_cons (pd_tup (pda_cons (pd_tup (pda_cons pd_int (pda_cons pd_int pda_nil))) (pda_cons (pd_tup (pda_cons pd_int (pda_cons pd_int pda_nil))) pda_nil))) (pda_cons (pd_tup (pda_cons (pd_tup (pda_cons pd_int (pda_cons pd_int pda_nil))) (pda_cons (pd_tup (pda_cons pd_int (pda_cons pd_int pda_nil))) pda_nil))) (pda_cons (pd_tup pda_nil) pda_nil))))))))) (by first | rfl | exact nomark _)))))))))
end
/-! ### all of it -/
theorem bs_of {K : PySem.W.Frag} {h : Heap} {mg : Str → Option Value} (X : K.In h) (G : h.Ns mainGlobals mg) (c : He.SaysD fa fn K) (x : ex K = true) : Bs K mg := by
  simp only [ex, Bool.and_eq_true] at x
  exact ⟨cst_sq (He.glo_ok X G (c.fact 53 (f := .glo "NOUGHT") rfl)) (He.tupB_ok x.2.2.1 _) fun O H => by simp only [Rps, Rp, List.map, He.Dv.v]; simp,
    cst_sq (He.glo_ok X G (c.fact 54 (f := .glo "ONE") rfl)) (He.tupB_ok x.2.2.2.1 _) fun O H => by simp only [Rps, Rp, List.map, He.Dv.v]; simp,
    (He.int_ok X G (c.fact 55 (f := .int "MOST_NUMBERS" 13) rfl)).elim fun _ z => cst_int z,
    (He.int_ok X G (c.fact 56 (f := .int "MOST_DEGREE" 6) rfl)).elim fun _ z => cst_int z,
    (He.str_ok X G (c.fact 57 (f := .str "TIMES" "times") rfl)).elim fun _ z => cst_str z,
    (He.str_ok X G (c.fact 58 (f := .str "STEPS" "steps") rfl)).elim fun _ z => cst_str z,
    bi_ok X G x.1,
    bi_ok X G x.2.1,
    He.free_ok X G (c.fact 59 (f := .free "isinstance") rfl),
    He.free_ok X G (c.fact 60 (f := .free "int") rfl),
    He.free_ok X G (c.fact 61 (f := .free "bool") rfl),
    He.free_ok X G (c.fact 62 (f := .free "tuple") rfl),
    He.free_ok X G (c.fact 63 (f := .free "len") rfl),
    He.free_ok X G (c.fact 64 (f := .free "all") rfl),
    He.free_ok X G (c.fact 65 (f := .free "max") rfl),
    He.free_ok X G (c.fact 66 (f := .free "zip") rfl),
    He.free_ok X G (c.fact 67 (f := .free "enumerate") rfl),
    He.free_ok X G (c.fact 68 (f := .free "str") rfl),
    He.free_ok X G (c.fact 69 (f := .free "range") rfl),
    He.free_ok X G (c.fact 70 (f := .free "abs") rfl),
    He.free_ok X G (c.fact 71 (f := .free "repr") rfl),
    He.free_ok X G (c.fact 72 (f := .free "list") rfl),
    He.free_ok X G (c.fact 73 (f := .free "min") rfl)⟩
theorem all_of {P : Program} {w : World} {K : PySem.W.Frag} {h : Heap} {mg : Str → Option Value} {fL : Addr} (X : K.In h) (G : h.Ns mainGlobals mg) (hL : mg ("law" : Str) = some (.ref fL)) (c : He.SaysD fa fn K) (x : ex K = true) : ∃ fd : FuncData, (∀ (s : Shared) (u : Value), BindsTo s fd ⟨[u], []⟩ [("script", u)]) ∧ ∀ base : Heap, FnG P w K mg base (L2.CX P w) 9 fL fd ["script"] (spD ⟨K, mg⟩ m_law) := by
  have B := bs_of X G c x
  obtain ⟨fd_is_whole, F_is_whole⟩ := c.def_ 0 (d := d_is_whole) rfl
  have D_is_whole : ∀ base : Heap, DefG P w K mg base 1 "is_whole" m_is_whole := fun base => ⟨_, fd_is_whole, ["value"], ok_is_whole B F_is_whole , He.glo_ok X G (c.fact 0 (f := .glo "is_whole") rfl), F_is_whole.kp, FunD.bindsN F_is_whole fun _ _ _ _ _ _ us hl => match us, hl with | [_], _ => rfl⟩
  obtain ⟨fd_is_tuple_of, F_is_tuple_of⟩ := c.def_ 2 (d := d_is_tuple_of) rfl
  have D_is_tuple_of : ∀ base : Heap, DefG P w K mg base 1 "is_tuple_of" m_is_tuple_of := fun base => ⟨_, fd_is_tuple_of, ["value", "low", "high"], ok_is_tuple_of B F_is_tuple_of , He.glo_ok X G (c.fact 2 (f := .glo "is_tuple_of") rfl), F_is_tuple_of.kp, FunD.bindsN F_is_tuple_of fun _ _ _ _ _ _ us hl => match us, hl with | [_, _, _], _ => rfl⟩
  obtain ⟨fd_fraction, F_fraction⟩ := c.def_ 5 (d := d_fraction) rfl
  have D_fraction : ∀ base : Heap, DefG P w K mg base 1 "fraction" m_fraction := fun base => ⟨_, fd_fraction, ["top", "under"], ok_fraction B F_fraction , He.glo_ok X G (c.fact 5 (f := .glo "fraction") rfl), F_fraction.kp, FunD.bindsN F_fraction fun _ _ _ _ _ _ us hl => match us, hl with | [_, _], _ => rfl⟩
  obtain ⟨fd_whole, F_whole⟩ := c.def_ 6 (d := d_whole) rfl
  have D_whole : ∀ base : Heap, DefG P w K mg base 1 "whole" m_whole := fun base => ⟨_, fd_whole, ["number"], ok_whole B F_whole , He.glo_ok X G (c.fact 6 (f := .glo "whole") rfl), F_whole.kp, FunD.bindsN F_whole fun _ _ _ _ _ _ us hl => match us, hl with | [_], _ => rfl⟩
  obtain ⟨fd_lessened, F_lessened⟩ := c.def_ 10 (d := d_lessened) rfl
  have D_lessened : ∀ base : Heap, DefG P w K mg base 1 "lessened" m_lessened := fun base => ⟨_, fd_lessened, ["numbers"], ok_lessened B F_lessened , He.glo_ok X G (c.fact 10 (f := .glo "lessened") rfl), F_lessened.kp, FunD.bindsN F_lessened fun _ _ _ _ _ _ us hl => match us, hl with | [_], _ => rfl⟩
  obtain ⟨fd_padded, F_padded⟩ := c.def_ 11 (d := d_padded) rfl
  have D_padded : ∀ base : Heap, DefG P w K mg base 1 "padded" m_padded := fun base => ⟨_, fd_padded, ["poly", "many"], ok_padded B F_padded , He.glo_ok X G (c.fact 11 (f := .glo "padded") rfl), F_padded.kp, FunD.bindsN F_padded fun _ _ _ _ _ _ us hl => match us, hl with | [_, _], _ => rfl⟩
  obtain ⟨fd_power_poly, F_power_poly⟩ := c.def_ 21 (d := d_power_poly) rfl
  have D_power_poly : ∀ base : Heap, DefG P w K mg base 1 "power_poly" m_power_poly := fun base => ⟨_, fd_power_poly, ["most"], ok_power_poly B F_power_poly , He.glo_ok X G (c.fact 21 (f := .glo "power_poly") rfl), F_power_poly.kp, FunD.bindsN F_power_poly fun _ _ _ _ _ _ us hl => match us, hl with | [_], _ => rfl⟩
  obtain ⟨fd__law_cask, F__law_cask⟩ := c.def_ 28 (d := d__law_cask) rfl
  have D__law_cask : ∀ base : Heap, DefG P w K mg base 1 "_law_cask" m__law_cask := fun base => ⟨_, fd__law_cask, ["script", "lap"], ok__law_cask B F__law_cask , He.glo_ok X G (c.fact 28 (f := .glo "_law_cask") rfl), F__law_cask.kp, FunD.bindsN F__law_cask fun _ _ _ _ _ _ us hl => match us, hl with | [_, _], _ => rfl⟩
  obtain ⟨fd__law_tap, F__law_tap⟩ := c.def_ 29 (d := d__law_tap) rfl
  have D__law_tap : ∀ base : Heap, DefG P w K mg base 1 "_law_tap" m__law_tap := fun base => ⟨_, fd__law_tap, ["cask", "many"], ok__law_tap B F__law_tap , He.glo_ok X G (c.fact 29 (f := .glo "_law_tap") rfl), F__law_tap.kp, FunD.bindsN F__law_tap fun _ _ _ _ _ _ us hl => match us, hl with | [_, _], _ => rfl⟩
  obtain ⟨fd__law_alike, F__law_alike⟩ := c.def_ 31 (d := d__law_alike) rfl
  have D__law_alike : ∀ base : Heap, DefG P w K mg base 1 "_law_alike" m__law_alike := fun base => ⟨_, fd__law_alike, ["told", "other"], ok__law_alike B F__law_alike , He.glo_ok X G (c.fact 31 (f := .glo "_law_alike") rfl), F__law_alike.kp, FunD.bindsN F__law_alike fun _ _ _ _ _ _ us hl => match us, hl with | [_, _], _ => rfl⟩
  obtain ⟨fd__law_measure, F__law_measure⟩ := c.def_ 32 (d := d__law_measure) rfl
  have D__law_measure : ∀ base : Heap, DefG P w K mg base 1 "_law_measure" m__law_measure := fun base => ⟨_, fd__law_measure, ["one", "two"], ok__law_measure B F__law_measure , He.glo_ok X G (c.fact 32 (f := .glo "_law_measure") rfl), F__law_measure.kp, FunD.bindsN F__law_measure fun _ _ _ _ _ _ us hl => match us, hl with | [_, _], _ => rfl⟩
  obtain ⟨fd__law_trimmed, F__law_trimmed⟩ := c.def_ 37 (d := d__law_trimmed) rfl
  have D__law_trimmed : ∀ base : Heap, DefG P w K mg base 1 "_law_trimmed" m__law_trimmed := fun base => ⟨_, fd__law_trimmed, ["numbers"], ok__law_trimmed B F__law_trimmed , He.glo_ok X G (c.fact 37 (f := .glo "_law_trimmed") rfl), F__law_trimmed.kp, FunD.bindsN F__law_trimmed fun _ _ _ _ _ _ us hl => match us, hl with | [_], _ => rfl⟩
  obtain ⟨fd_is_between, F_is_between⟩ := c.def_ 1 (d := d_is_between) rfl
  have D_is_between : ∀ base : Heap, DefG P w K mg base 2 "is_between" m_is_between := fun base => ⟨_, fd_is_between, ["value", "low", "high"], ok_is_between B F_is_between (D_is_whole base), He.glo_ok X G (c.fact 1 (f := .glo "is_between") rfl), F_is_between.kp, FunD.bindsN F_is_between fun _ _ _ _ _ _ us hl => match us, hl with | [_, _, _], _ => rfl⟩
  obtain ⟨fd_is_fraction, F_is_fraction⟩ := c.def_ 3 (d := d_is_fraction) rfl
  have D_is_fraction : ∀ base : Heap, DefG P w K mg base 2 "is_fraction" m_is_fraction := fun base => ⟨_, fd_is_fraction, ["value"], ok_is_fraction B F_is_fraction (D_is_tuple_of base) (D_is_whole base), He.glo_ok X G (c.fact 3 (f := .glo "is_fraction") rfl), F_is_fraction.kp, FunD.bindsN F_is_fraction fun _ _ _ _ _ _ us hl => match us, hl with | [_], _ => rfl⟩
  obtain ⟨fd_plus, F_plus⟩ := c.def_ 7 (d := d_plus) rfl
  have D_plus : ∀ base : Heap, DefG P w K mg base 2 "plus" m_plus := fun base => ⟨_, fd_plus, ["one", "two"], ok_plus B F_plus (D_fraction base), He.glo_ok X G (c.fact 7 (f := .glo "plus") rfl), F_plus.kp, FunD.bindsN F_plus fun _ _ _ _ _ _ us hl => match us, hl with | [_, _], _ => rfl⟩
  obtain ⟨fd_times, F_times⟩ := c.def_ 8 (d := d_times) rfl
  have D_times : ∀ base : Heap, DefG P w K mg base 2 "times" m_times := fun base => ⟨_, fd_times, ["one", "two"], ok_times B F_times (D_fraction base), He.glo_ok X G (c.fact 8 (f := .glo "times") rfl), F_times.kp, FunD.bindsN F_times fun _ _ _ _ _ _ us hl => match us, hl with | [_, _], _ => rfl⟩
  obtain ⟨fd__law_one_from, F__law_one_from⟩ := c.def_ 30 (d := d__law_one_from) rfl
  have D__law_one_from : ∀ base : Heap, DefG P w K mg base 2 "_law_one_from" m__law_one_from := fun base => ⟨_, fd__law_one_from, ["cask", "things"], ok__law_one_from B F__law_one_from (D__law_tap base), He.glo_ok X G (c.fact 30 (f := .glo "_law_one_from") rfl), F__law_one_from.kp, FunD.bindsN F__law_one_from fun _ _ _ _ _ _ us hl => match us, hl with | [_, _], _ => rfl⟩
  obtain ⟨fd__law_frac, F__law_frac⟩ := c.def_ 33 (d := d__law_frac) rfl
  have D__law_frac : ∀ base : Heap, DefG P w K mg base 2 "_law_frac" m__law_frac := fun base => ⟨_, fd__law_frac, ["top", "low"], ok__law_frac B F__law_frac (D__law_measure base), He.glo_ok X G (c.fact 33 (f := .glo "_law_frac") rfl), F__law_frac.kp, FunD.bindsN F__law_frac fun _ _ _ _ _ _ us hl => match us, hl with | [_, _], _ => rfl⟩
  obtain ⟨fd__law_is_fraction, F__law_is_fraction⟩ := c.def_ 36 (d := d__law_is_fraction) rfl
  have D__law_is_fraction : ∀ base : Heap, DefG P w K mg base 2 "_law_is_fraction" m__law_is_fraction := fun base => ⟨_, fd__law_is_fraction, ["value"], ok__law_is_fraction B F__law_is_fraction (D__law_measure base), He.glo_ok X G (c.fact 36 (f := .glo "_law_is_fraction") rfl), F__law_is_fraction.kp, FunD.bindsN F__law_is_fraction fun _ _ _ _ _ _ us hl => match us, hl with | [_], _ => rfl⟩
  obtain ⟨fd__law_near, F__law_near⟩ := c.def_ 50 (d := d__law_near) rfl
  have D__law_near : ∀ base : Heap, DefG P w K mg base 2 "_law_near" m__law_near := fun base => ⟨_, fd__law_near, ["cask", "making"], ok__law_near B F__law_near (D__law_tap base), He.glo_ok X G (c.fact 50 (f := .glo "_law_near") rfl), F__law_near.kp, FunD.bindsN F__law_near fun _ _ _ _ _ _ us hl => match us, hl with | [_, _], _ => rfl⟩
  obtain ⟨fd_are_fractions, F_are_fractions⟩ := c.def_ 4 (d := d_are_fractions) rfl
  have D_are_fractions : ∀ base : Heap, DefG P w K mg base 3 "are_fractions" m_are_fractions := fun base => ⟨_, fd_are_fractions, ["value", "low", "high"], ok_are_fractions B F_are_fractions (D_is_fraction base) (D_is_tuple_of base), He.glo_ok X G (c.fact 4 (f := .glo "are_fractions") rfl), F_are_fractions.kp, FunD.bindsN F_are_fractions fun _ _ _ _ _ _ us hl => match us, hl with | [_, _, _], _ => rfl⟩
  obtain ⟨fd_scaled, F_scaled⟩ := c.def_ 12 (d := d_scaled) rfl
  have D_scaled : ∀ base : Heap, DefG P w K mg base 3 "scaled" m_scaled := fun base => ⟨_, fd_scaled, ["poly", "share"], ok_scaled B F_scaled (D_lessened base) (D_times base), He.glo_ok X G (c.fact 12 (f := .glo "scaled") rfl), F_scaled.kp, FunD.bindsN F_scaled fun _ _ _ _ _ _ us hl => match us, hl with | [_, _], _ => rfl⟩
  obtain ⟨fd_sum_by, F_sum_by⟩ := c.def_ 13 (d := d_sum_by) rfl
  have D_sum_by : ∀ base : Heap, DefG P w K mg base 3 "sum_by" m_sum_by := fun base => ⟨_, fd_sum_by, ["poly", "other"], ok_sum_by B F_sum_by (D_lessened base) (D_padded base) (D_plus base), He.glo_ok X G (c.fact 13 (f := .glo "sum_by") rfl), F_sum_by.kp, FunD.bindsN F_sum_by fun _ _ _ _ _ _ us hl => match us, hl with | [_, _], _ => rfl⟩
  obtain ⟨fd_rise_of, F_rise_of⟩ := c.def_ 14 (d := d_rise_of) rfl
  have D_rise_of : ∀ base : Heap, DefG P w K mg base 3 "rise_of" m_rise_of := fun base => ⟨_, fd_rise_of, ["poly"], ok_rise_of B F_rise_of (D_lessened base) (D_times base) (D_whole base), He.glo_ok X G (c.fact 14 (f := .glo "rise_of") rfl), F_rise_of.kp, FunD.bindsN F_rise_of fun _ _ _ _ _ _ us hl => match us, hl with | [_], _ => rfl⟩
  obtain ⟨fd_check_most, F_check_most⟩ := c.def_ 17 (d := d_check_most) rfl
  have D_check_most : ∀ base : Heap, DefG P w K mg base 3 "check_most" m_check_most := fun base => ⟨_, fd_check_most, ["value"], ok_check_most B F_check_most (D_is_between base), He.glo_ok X G (c.fact 17 (f := .glo "check_most") rfl), F_check_most.kp, FunD.bindsN F_check_most fun _ _ _ _ _ _ us hl => match us, hl with | [_], _ => rfl⟩
  obtain ⟨fd__law_plus, F__law_plus⟩ := c.def_ 34 (d := d__law_plus) rfl
  have D__law_plus : ∀ base : Heap, DefG P w K mg base 3 "_law_plus" m__law_plus := fun base => ⟨_, fd__law_plus, ["one", "two"], ok__law_plus B F__law_plus (D__law_frac base), He.glo_ok X G (c.fact 34 (f := .glo "_law_plus") rfl), F__law_plus.kp, FunD.bindsN F__law_plus fun _ _ _ _ _ _ us hl => match us, hl with | [_, _], _ => rfl⟩
  obtain ⟨fd__law_by, F__law_by⟩ := c.def_ 35 (d := d__law_by) rfl
  have D__law_by : ∀ base : Heap, DefG P w K mg base 3 "_law_by" m__law_by := fun base => ⟨_, fd__law_by, ["one", "two"], ok__law_by B F__law_by (D__law_frac base), He.glo_ok X G (c.fact 35 (f := .glo "_law_by") rfl), F__law_by.kp, FunD.bindsN F__law_by fun _ _ _ _ _ _ us hl => match us, hl with | [_, _], _ => rfl⟩
  obtain ⟨fd__law_drawn_fraction, F__law_drawn_fraction⟩ := c.def_ 43 (d := d__law_drawn_fraction) rfl
  have D__law_drawn_fraction : ∀ base : Heap, DefG P w K mg base 3 "_law_drawn_fraction" m__law_drawn_fraction := fun base => ⟨_, fd__law_drawn_fraction, ["cask"], ok__law_drawn_fraction B F__law_drawn_fraction (D__law_frac base) (D__law_one_from base) (D__law_tap base), He.glo_ok X G (c.fact 43 (f := .glo "_law_drawn_fraction") rfl), F__law_drawn_fraction.kp, FunD.bindsN F__law_drawn_fraction fun _ _ _ _ _ _ us hl => match us, hl with | [_], _ => rfl⟩
  obtain ⟨fd__law_is_making, F__law_is_making⟩ := c.def_ 47 (d := d__law_is_making) rfl
  have D__law_is_making : ∀ base : Heap, DefG P w K mg base 3 "_law_is_making" m__law_is_making := fun base => ⟨_, fd__law_is_making, ["most", "value"], ok__law_is_making B F__law_is_making (D__law_is_fraction base), He.glo_ok X G (c.fact 47 (f := .glo "_law_is_making") rfl), F__law_is_making.kp, FunD.bindsN F__law_is_making fun _ _ _ _ _ _ us hl => match us, hl with | [_, _], _ => rfl⟩
  obtain ⟨fd_is_poly_by, F_is_poly_by⟩ := c.def_ 9 (d := d_is_poly_by) rfl
  have D_is_poly_by : ∀ base : Heap, DefG P w K mg base 4 "is_poly_by" m_is_poly_by := fun base => ⟨_, fd_is_poly_by, ["value"], ok_is_poly_by B F_is_poly_by (D_are_fractions base), He.glo_ok X G (c.fact 9 (f := .glo "is_poly_by") rfl), F_is_poly_by.kp, FunD.bindsN F_is_poly_by fun _ _ _ _ _ _ us hl => match us, hl with | [_], _ => rfl⟩
  obtain ⟨fd_is_making_by, F_is_making_by⟩ := c.def_ 19 (d := d_is_making_by) rfl
  have D_is_making_by : ∀ base : Heap, DefG P w K mg base 4 "is_making_by" m_is_making_by := fun base => ⟨_, fd_is_making_by, ["most", "value"], ok_is_making_by B F_is_making_by (D_are_fractions base) (D_is_tuple_of base), He.glo_ok X G (c.fact 19 (f := .glo "is_making_by") rfl), F_is_making_by.kp, FunD.bindsN F_is_making_by fun _ _ _ _ _ _ us hl => match us, hl with | [_, _], _ => rfl⟩
  obtain ⟨fd_made_by, F_made_by⟩ := c.def_ 20 (d := d_made_by) rfl
  have D_made_by : ∀ base : Heap, DefG P w K mg base 4 "made_by" m_made_by := fun base => ⟨_, fd_made_by, ["making", "poly"], ok_made_by B F_made_by (D_lessened base) (D_rise_of base) (D_scaled base) (D_sum_by base) (D_times base), He.glo_ok X G (c.fact 20 (f := .glo "made_by") rfl), F_made_by.kp, FunD.bindsN F_made_by fun _ _ _ _ _ _ us hl => match us, hl with | [_, _], _ => rfl⟩
  obtain ⟨fd__law_mixed, F__law_mixed⟩ := c.def_ 38 (d := d__law_mixed) rfl
  have D__law_mixed : ∀ base : Heap, DefG P w K mg base 4 "_law_mixed" m__law_mixed := fun base => ⟨_, fd__law_mixed, ["one", "a", "two", "b"], ok__law_mixed B F__law_mixed (D__law_by base) (D__law_plus base) (D__law_trimmed base), He.glo_ok X G (c.fact 38 (f := .glo "_law_mixed") rfl), F__law_mixed.kp, FunD.bindsN F__law_mixed fun _ _ _ _ _ _ us hl => match us, hl with | [_, _, _, _], _ => rfl⟩
  obtain ⟨fd__law_product, F__law_product⟩ := c.def_ 39 (d := d__law_product) rfl
  have D__law_product : ∀ base : Heap, DefG P w K mg base 4 "_law_product" m__law_product := fun base => ⟨_, fd__law_product, ["one", "two"], ok__law_product B F__law_product (D__law_by base) (D__law_plus base) (D__law_trimmed base), He.glo_ok X G (c.fact 39 (f := .glo "_law_product") rfl), F__law_product.kp, FunD.bindsN F__law_product fun _ _ _ _ _ _ us hl => match us, hl with | [_, _], _ => rfl⟩
  obtain ⟨fd__law_rise, F__law_rise⟩ := c.def_ 40 (d := d__law_rise) rfl
  have D__law_rise : ∀ base : Heap, DefG P w K mg base 4 "_law_rise" m__law_rise := fun base => ⟨_, fd__law_rise, ["poly"], ok__law_rise B F__law_rise (D__law_by base) (D__law_trimmed base), He.glo_ok X G (c.fact 40 (f := .glo "_law_rise") rfl), F__law_rise.kp, FunD.bindsN F__law_rise fun _ _ _ _ _ _ us hl => match us, hl with | [_], _ => rfl⟩
  obtain ⟨fd__law_scaled, F__law_scaled⟩ := c.def_ 42 (d := d__law_scaled) rfl
  have D__law_scaled : ∀ base : Heap, DefG P w K mg base 4 "_law_scaled" m__law_scaled := fun base => ⟨_, fd__law_scaled, ["poly", "by"], ok__law_scaled B F__law_scaled (D__law_by base) (D__law_trimmed base), He.glo_ok X G (c.fact 42 (f := .glo "_law_scaled") rfl), F__law_scaled.kp, FunD.bindsN F__law_scaled fun _ _ _ _ _ _ us hl => match us, hl with | [_, _], _ => rfl⟩
  obtain ⟨fd__law_drawn_roots, F__law_drawn_roots⟩ := c.def_ 44 (d := d__law_drawn_roots) rfl
  have D__law_drawn_roots : ∀ base : Heap, DefG P w K mg base 4 "_law_drawn_roots" m__law_drawn_roots := fun base => ⟨_, fd__law_drawn_roots, ["cask", "many"], ok__law_drawn_roots B F__law_drawn_roots (D__law_drawn_fraction base) (D__law_tap base), He.glo_ok X G (c.fact 44 (f := .glo "_law_drawn_roots") rfl), F__law_drawn_roots.kp, FunD.bindsN F__law_drawn_roots fun _ _ _ _ _ _ us hl => match us, hl with | [_, _], _ => rfl⟩
  obtain ⟨fd__law_drawn_making, F__law_drawn_making⟩ := c.def_ 49 (d := d__law_drawn_making) rfl
  have D__law_drawn_making : ∀ base : Heap, DefG P w K mg base 4 "_law_drawn_making" m__law_drawn_making := fun base => ⟨_, fd__law_drawn_making, ["cask", "most"], ok__law_drawn_making B F__law_drawn_making (D__law_drawn_fraction base) (D__law_one_from base) (D__law_tap base), He.glo_ok X G (c.fact 49 (f := .glo "_law_drawn_making") rfl), F__law_drawn_making.kp, FunD.bindsN F__law_drawn_making fun _ _ _ _ _ _ us hl => match us, hl with | [_, _], _ => rfl⟩
  obtain ⟨fd_check_poly, F_check_poly⟩ := c.def_ 15 (d := d_check_poly) rfl
  have D_check_poly : ∀ base : Heap, DefG P w K mg base 5 "check_poly" m_check_poly := fun base => ⟨_, fd_check_poly, ["value"], ok_check_poly B F_check_poly (D_is_poly_by base), He.glo_ok X G (c.fact 15 (f := .glo "check_poly") rfl), F_check_poly.kp, FunD.bindsN F_check_poly fun _ _ _ _ _ _ us hl => match us, hl with | [_], _ => rfl⟩
  obtain ⟨fd_check_poly_up_to, F_check_poly_up_to⟩ := c.def_ 18 (d := d_check_poly_up_to) rfl
  have D_check_poly_up_to : ∀ base : Heap, DefG P w K mg base 5 "check_poly_up_to" m_check_poly_up_to := fun base => ⟨_, fd_check_poly_up_to, ["most", "value"], ok_check_poly_up_to B F_check_poly_up_to (D_is_poly_by base), He.glo_ok X G (c.fact 18 (f := .glo "check_poly_up_to") rfl), F_check_poly_up_to.kp, FunD.bindsN F_check_poly_up_to fun _ _ _ _ _ _ us hl => match us, hl with | [_, _], _ => rfl⟩
  obtain ⟨fd_symbol_by, F_symbol_by⟩ := c.def_ 22 (d := d_symbol_by) rfl
  have D_symbol_by : ∀ base : Heap, DefG P w K mg base 5 "symbol_by" m_symbol_by := fun base => ⟨_, fd_symbol_by, ["making"], ok_symbol_by B F_symbol_by (D_made_by base) (D_power_poly base) (D_whole base), He.glo_ok X G (c.fact 22 (f := .glo "symbol_by") rfl), F_symbol_by.kp, FunD.bindsN F_symbol_by fun _ _ _ _ _ _ us hl => match us, hl with | [_], _ => rfl⟩
  obtain ⟨fd_is_making, F_is_making⟩ := c.def_ 23 (d := d_is_making) rfl
  have D_is_making : ∀ base : Heap, DefG P w K mg base 5 "is_making" m_is_making := fun base => ⟨_, fd_is_making, ["most", "value"], ok_is_making B F_is_making (D_check_most base) (D_is_making_by base), He.glo_ok X G (c.fact 23 (f := .glo "is_making") rfl), F_is_making.kp, FunD.bindsN F_is_making fun _ _ _ _ _ _ us hl => match us, hl with | [_, _], _ => rfl⟩
  have K_2 : ∀ base : Heap, KwG P w K mg base 5 "is_making" m_is_making ["value", "most"] [1, 0] := fun base => by
    obtain ⟨oc, od, dV, kV, doc, pm, an, cdv, ct, osl, rfl, lk, hcd, hD, _⟩ := F_is_making.ex
    obtain rfl : dV = .none := by rcases hD with ⟨_, e⟩ | ⟨e, _⟩; exact e; exact absurd rfl e
    exact ⟨_, _, ["most", "value"], ok_is_making B F_is_making (D_check_most base) (D_is_making_by base), He.glo_ok X G (c.fact 23 (f := .glo "is_making") rfl), F_is_making.kp, fun s ws hl => match ws, hl with | [_, _], _ => .of_eq rfl⟩
  obtain ⟨fd_check_making, F_check_making⟩ := c.def_ 24 (d := d_check_making) rfl
  have D_check_making : ∀ base : Heap, DefG P w K mg base 5 "check_making" m_check_making := fun base => ⟨_, fd_check_making, ["most", "value"], ok_check_making B F_check_making (D_check_most base) (D_is_making_by base), He.glo_ok X G (c.fact 24 (f := .glo "check_making") rfl), F_check_making.kp, FunD.bindsN F_check_making fun _ _ _ _ _ _ us hl => match us, hl with | [_, _], _ => rfl⟩
  obtain ⟨fd__law_rooted, F__law_rooted⟩ := c.def_ 41 (d := d__law_rooted) rfl
  have D__law_rooted : ∀ base : Heap, DefG P w K mg base 5 "_law_rooted" m__law_rooted := fun base => ⟨_, fd__law_rooted, ["roots"], ok__law_rooted B F__law_rooted (D__law_product base), He.glo_ok X G (c.fact 41 (f := .glo "_law_rooted") rfl), F__law_rooted.kp, FunD.bindsN F__law_rooted fun _ _ _ _ _ _ us hl => match us, hl with | [_], _ => rfl⟩
  obtain ⟨fd__law_bent, F__law_bent⟩ := c.def_ 45 (d := d__law_bent) rfl
  have D__law_bent : ∀ base : Heap, DefG P w K mg base 5 "_law_bent" m__law_bent := fun base => ⟨_, fd__law_bent, ["cask"], ok__law_bent B F__law_bent (D__law_drawn_fraction base) (D__law_frac base) (D__law_mixed base) (D__law_one_from base) (D__law_product base) (D__law_tap base), He.glo_ok X G (c.fact 45 (f := .glo "_law_bent") rfl), F__law_bent.kp, FunD.bindsN F__law_bent fun _ _ _ _ _ _ us hl => match us, hl with | [_], _ => rfl⟩
  obtain ⟨fd__law_made, F__law_made⟩ := c.def_ 48 (d := d__law_made) rfl
  have D__law_made : ∀ base : Heap, DefG P w K mg base 5 "_law_made" m__law_made := fun base => ⟨_, fd__law_made, ["making", "poly"], ok__law_made B F__law_made (D__law_by base) (D__law_mixed base) (D__law_rise base) (D__law_trimmed base), He.glo_ok X G (c.fact 48 (f := .glo "_law_made") rfl), F__law_made.kp, FunD.bindsN F__law_made fun _ _ _ _ _ _ us hl => match us, hl with | [_, _], _ => rfl⟩
  obtain ⟨fd_check_polys, F_check_polys⟩ := c.def_ 16 (d := d_check_polys) rfl
  have D_check_polys : ∀ base : Heap, DefG P w K mg base 6 "check_polys" m_check_polys := fun base => ⟨_, fd_check_polys, ["poly", "other"], ok_check_polys B F_check_polys (D_check_poly base), He.glo_ok X G (c.fact 16 (f := .glo "check_polys") rfl), F_check_polys.kp, FunD.bindsN F_check_polys fun _ _ _ _ _ _ us hl => match us, hl with | [_, _], _ => rfl⟩
  obtain ⟨fd_made, F_made⟩ := c.def_ 25 (d := d_made) rfl
  have D_made : ∀ base : Heap, DefG P w K mg base 6 "made" m_made := fun base => ⟨_, fd_made, ["most", "making", "poly"], ok_made B F_made (D_check_making base) (D_check_poly_up_to base) (D_made_by base), He.glo_ok X G (c.fact 25 (f := .glo "made") rfl), F_made.kp, FunD.bindsN F_made fun _ _ _ _ _ _ us hl => match us, hl with | [_, _, _], _ => rfl⟩
  have K_0 : ∀ base : Heap, KwG P w K mg base 6 "made" m_made ["poly", "making", "most"] [2, 1, 0] := fun base => by
    obtain ⟨oc, od, dV, kV, doc, pm, an, cdv, ct, osl, rfl, lk, hcd, hD, _⟩ := F_made.ex
    obtain rfl : dV = .none := by rcases hD with ⟨_, e⟩ | ⟨e, _⟩; exact e; exact absurd rfl e
    exact ⟨_, _, ["most", "making", "poly"], ok_made B F_made (D_check_making base) (D_check_poly_up_to base) (D_made_by base), He.glo_ok X G (c.fact 25 (f := .glo "made") rfl), F_made.kp, fun s ws hl => match ws, hl with | [_, _, _], _ => .of_eq rfl⟩
  obtain ⟨fd_symbol, F_symbol⟩ := c.def_ 26 (d := d_symbol) rfl
  have D_symbol : ∀ base : Heap, DefG P w K mg base 6 "symbol" m_symbol := fun base => ⟨_, fd_symbol, ["most", "making"], ok_symbol B F_symbol (D_check_making base) (D_symbol_by base), He.glo_ok X G (c.fact 26 (f := .glo "symbol") rfl), F_symbol.kp, FunD.bindsN F_symbol fun _ _ _ _ _ _ us hl => match us, hl with | [_, _], _ => rfl⟩
  have K_1 : ∀ base : Heap, KwG P w K mg base 6 "symbol" m_symbol ["making", "most"] [1, 0] := fun base => by
    obtain ⟨oc, od, dV, kV, doc, pm, an, cdv, ct, osl, rfl, lk, hcd, hD, _⟩ := F_symbol.ex
    obtain rfl : dV = .none := by rcases hD with ⟨_, e⟩ | ⟨e, _⟩; exact e; exact absurd rfl e
    exact ⟨_, _, ["most", "making"], ok_symbol B F_symbol (D_check_making base) (D_symbol_by base), He.glo_ok X G (c.fact 26 (f := .glo "symbol") rfl), F_symbol.kp, fun s ws hl => match ws, hl with | [_, _], _ => .of_eq rfl⟩
  obtain ⟨fd__law_drawn_poly, F__law_drawn_poly⟩ := c.def_ 46 (d := d__law_drawn_poly) rfl
  have D__law_drawn_poly : ∀ base : Heap, DefG P w K mg base 6 "_law_drawn_poly" m__law_drawn_poly := fun base => ⟨_, fd__law_drawn_poly, ["cask", "most"], ok__law_drawn_poly B F__law_drawn_poly (D__law_bent base) (D__law_drawn_fraction base) (D__law_drawn_roots base) (D__law_one_from base) (D__law_product base) (D__law_rooted base) (D__law_scaled base) (D__law_tap base) (D__law_trimmed base), He.glo_ok X G (c.fact 46 (f := .glo "_law_drawn_poly") rfl), F__law_drawn_poly.kp, FunD.bindsN F__law_drawn_poly fun _ _ _ _ _ _ us hl => match us, hl with | [_, _], _ => rfl⟩
  obtain ⟨fd_poly_sum, F_poly_sum⟩ := c.def_ 27 (d := d_poly_sum) rfl
  have D_poly_sum : ∀ base : Heap, DefG P w K mg base 7 "poly_sum" m_poly_sum := fun base => ⟨_, fd_poly_sum, ["poly", "other_poly"], ok_poly_sum B F_poly_sum (D_check_polys base) (D_sum_by base), He.glo_ok X G (c.fact 27 (f := .glo "poly_sum") rfl), F_poly_sum.kp, FunD.bindsN F_poly_sum fun _ _ _ _ _ _ us hl => match us, hl with | [_, _], _ => rfl⟩
  obtain ⟨fd__law_right, F__law_right⟩ := c.def_ 51 (d := d__law_right) rfl
  have D__law_right : ∀ base : Heap, DefG P w K mg base 8 "_law_right" m__law_right := fun base => ⟨_, fd__law_right, ["cask"], ok__law_right B F__law_right (D__law_alike base) (D__law_drawn_making base) (D__law_drawn_poly base) (D__law_is_making base) (D__law_made base) (D__law_near base) (D__law_rooted base) (D__law_tap base) (D_is_making base) (D_made base) (D_poly_sum base) (D_symbol base) (K_2 base) (K_0 base) (K_1 base), He.glo_ok X G (c.fact 51 (f := .glo "_law_right") rfl), F__law_right.kp, FunD.bindsN F__law_right fun _ _ _ _ _ _ us hl => match us, hl with | [_], _ => rfl⟩
  obtain ⟨fd_law, F_law⟩ := c.def_ 52 (d := d_law) rfl
  have e := hL.symm.trans (He.glo_ok X G (c.fact 52 (f := .glo "law") rfl))
  cases e
  have b := FunD.bindsA (ps := ["script"]) F_law fun _ _ _ _ _ _ us hl => match us, hl with | [_], _ => rfl
  exact ⟨fd_law, fun s v => b s [v] rfl, fun base => ok_law B F_law (D__law_cask base) (D__law_right base) (D_made base) (D_symbol base)⟩
end L50
set_option maxRecDepth 100000
set_option maxHeartbeats 1000000
namespace L50
open PySem DL
theorem lim0 : (0 ≤ LIM) = True := eq_true (by decide)
theorem lim1 : (1 ≤ LIM) = True := eq_true (by decide)
theorem lim2 : (2 ≤ LIM) = True := eq_true (by decide)
theorem lim3 : (3 ≤ LIM) = True := eq_true (by decide)
theorem lim4 : (4 ≤ LIM) = True := eq_true (by decide)
theorem lim5 : (5 ≤ LIM) = True := eq_true (by decide)
theorem lim6 : (6 ≤ LIM) = True := eq_true (by decide)
theorem lim7 : (7 ≤ LIM) = True := eq_true (by decide)
theorem lim8 : (8 ≤ LIM) = True := eq_true (by decide)
theorem lim9 : (9 ≤ LIM) = True := eq_true (by decide)
theorem lim10 : (10 ≤ LIM) = True := eq_true (by decide)
theorem lim11 : (11 ≤ LIM) = True := eq_true (by decide)
/-! ### fractions -/
def fr (q : Rat) : DV := .tup [.int q.num, .int q.den]
def Sm (q : Rat) : Prop := q.num.natAbs < 2 ^ 1000 ∧ q.den < 2 ^ 1000
theorem ix0 {x y : DV} : gIx (.tup [x, y]) (.int 0) = some x := rfl
theorem ix1 {x y : DV} : gIx (.tup [x, y]) (.int 1) = some y := rfl
theorem mul_ok {i j : Int} (h : i.natAbs.log2 + j.natAbs.log2 < 100000000) : gMul (.int i) (.int j) = some (.int (i * j)) := if_pos h
theorem fdiv_ok {i j : Int} (h : 0 < j ∧ j.natAbs.log2 < 9000) : gFdiv (.int i) (.int j) = some (.int (i / j)) := if_pos h
theorem add_ok {i j : Int} : gAdd (.int i) (.int j) = some (.int (i + j)) := rfl
theorem sub_ok {i j : Int} : gSub (.int i) (.int j) = some (.int (i - j)) := rfl
theorem gt_ok {i j : Int} : gGt (.int i) (.int j) = some (.bl (decide (i > j))) := rfl
theorem gcd_ok {i j : Int} : fGcd [.int i, .int j] = some (.int ((Nat.gcd i.natAbs j.natAbs : Nat) : Int)) := rfl
theorem log_lt {n k : Nat} (h : n < 2 ^ k) (hk : 0 < k) : n.log2 < k := by
  by_cases z : n = 0
  · subst z; simpa using hk
  · exact (Nat.log2_lt z).mpr h
theorem mk_num {t : Int} {u : Nat} (hu : 0 < u) : (mkRat t u).num = t / ((Nat.gcd t.natAbs u : Nat) : Int) := by
  rw [Rat.num_mkRat, if_neg (by omega), Nat.gcd_comm]
theorem mk_den {t : Int} {u : Nat} (hu : 0 < u) : (((mkRat t u).den : Nat) : Int) = (u : Int) / ((Nat.gcd t.natAbs u : Nat) : Int) := by
  rw [Rat.den_mkRat, if_neg (by omega), Nat.gcd_comm]
  rfl
theorem t_fraction {t : Int} {u : Nat} (hu : 0 < u) (hb : u < 2 ^ 8000) : m_fraction [.d (.int t), .d (.int u)] = some (.ok (fr (mkRat t u)), []) := by
  have g0 : 0 < Nat.gcd t.natAbs u := Nat.gcd_pos_of_pos_right _ hu
  have gle : Nat.gcd t.natAbs u ≤ u := Nat.gcd_le_right _ hu
  have c : 0 < ((Nat.gcd t.natAbs u : Nat) : Int) ∧ ((Nat.gcd t.natAbs u : Nat) : Int).natAbs.log2 < 9000 := ⟨by omega, by
    rw [Int.natAbs_natCast]
    exact Nat.lt_of_lt_of_le (log_lt (Nat.lt_of_le_of_lt gle hb) (by decide)) (by decide)⟩
  have z : ((u : Int) > 0) := by omega
  simp only [m_fraction, g_fraction, M.bnd, M.ret, M.stk, sSeq, sRet, sRetN, sIf, sSet, sExpr, sNx, eVar, eC, eBin, eFn, endFn, argF, slotsOf, wr, wr1, outsF, aCons, aNil, eTup, datas, eCal, snaps, snap, handed, eIf, tOf, tNo, tBoth, tAny, eBoth, eAny, eNo, eNeg, eChain, eLst, lDisp, runD, startF, slotOf, Tg.put, Tg.puts, e1, sPar2, eSl, eBits, eVar, oSome, oNone, List.map_cons, List.map_nil, List.length_cons, List.length_nil, List.replicate, List.cons_append, List.nil_append, List.append_nil, List.getElem?_cons_zero, List.getElem?_cons_succ, List.set_cons_zero, List.set_cons_succ, Option.map_some, Option.bind_some, lim0, lim1, lim2, lim3, lim4, lim5, lim6, lim7, lim8, lim9, lim10, lim11, Nat.reduceAdd, Nat.reduceSub, Nat.reduceLT, Nat.reduceEqDiff, if_true, if_false, eq_self, decide_true, decide_false, Bool.false_eq_true, Bool.not_true, Bool.not_false, and_self, and_true, true_and, Nat.zero_lt_succ, Nat.lt_add_one, List.nodup_nil, List.nodup_cons, List.not_mem_nil, not_false_eq_true, gcd_ok, gt_ok, Int.natAbs_natCast, fdiv_ok c, decide_eq_true z, fr, mk_num hu, mk_den hu]
theorem eq_ok {i j : Int} : gEq (.int i) (.int j) = some (.bl (i == j)) := rfl
theorem mod_ok {i j : Int} (h : 0 < j) : gMod (.int i) (.int j) = some (.int (i % j)) := if_pos h
theorem t_whole (i : Int) : m_whole [.d (.int i)] = some (.ok (.tup [.int i, .int 1]), []) := rfl
theorem fr_int (i : Int) : fr (i : Rat) = .tup [.int i, .int 1] := rfl
theorem log2_sm {q : Rat} (h : Sm q) : q.num.natAbs.log2 < 1000 ∧ q.den.log2 < 1000 := ⟨log_lt h.1 (by decide), log_lt h.2 (by decide)⟩
theorem mul_lt_pow {a b m n : Nat} (h : a < 2 ^ m) (k : b < 2 ^ n) : a * b < 2 ^ (m + n) := by
  rw [Nat.pow_add]
  exact Nat.mul_lt_mul'' h k
theorem t_plus {a b : Rat} (ha : Sm a) (hb : Sm b) : m_plus [.d (fr a), .d (fr b)] = some (.ok (fr (a + b)), []) := by
  have la := log2_sm ha
  have lb := log2_sm hb
  have c1 := mul_ok (i := a.num) (j := (b.den : Int)) (by rw [Int.natAbs_natCast]; omega)
  have c2 := mul_ok (i := b.num) (j := (a.den : Int)) (by rw [Int.natAbs_natCast]; omega)
  have c3 := mul_ok (i := (a.den : Int)) (j := (b.den : Int)) (by rw [Int.natAbs_natCast, Int.natAbs_natCast]; omega)
  have hd : a.den * b.den < 2 ^ 8000 := Nat.lt_of_lt_of_le (mul_lt_pow ha.2 hb.2) (Nat.pow_le_pow_right (by decide) (by decide))
  have hp : 0 < a.den * b.den := Nat.mul_pos (Nat.pos_of_ne_zero a.den_nz) (Nat.pos_of_ne_zero b.den_nz)
  simp only [m_plus, g_plus, fr, M.bnd, M.ret, M.stk, sSeq, sRet, sRetN, sIf, sSet, sExpr, sNx, eVar, eC, eBin, eFn, endFn, argF, slotsOf, wr, wr1, outsF, aCons, aNil, eTup, datas, eCal, snaps, snap, handed, eIf, tOf, tNo, tBoth, tAny, eBoth, eAny, eNo, eNeg, eChain, eLst, lDisp, runD, startF, slotOf, Tg.put, Tg.puts, e1, sPar2, eSl, eBits, eVar, oSome, oNone, List.map_cons, List.map_nil, List.length_cons, List.length_nil, List.replicate, List.cons_append, List.nil_append, List.append_nil, List.getElem?_cons_zero, List.getElem?_cons_succ, List.set_cons_zero, List.set_cons_succ, Option.map_some, Option.bind_some, lim0, lim1, lim2, lim3, lim4, lim5, lim6, lim7, lim8, lim9, lim10, lim11, Nat.reduceAdd, Nat.reduceSub, Nat.reduceLT, Nat.reduceEqDiff, if_true, if_false, eq_self, decide_true, decide_false, Bool.false_eq_true, Bool.not_true, Bool.not_false, and_self, and_true, true_and, Nat.zero_lt_succ, Nat.lt_add_one, List.nodup_nil, List.nodup_cons, List.not_mem_nil, not_false_eq_true, ix0, ix1, c1, c2, c3, add_ok, ← Int.natCast_mul]
  rw [t_fraction hp hd, ← Rat.add_def']
  all_goals rfl
theorem t_times {a b : Rat} (ha : Sm a) (hb : Sm b) : m_times [.d (fr a), .d (fr b)] = some (.ok (fr (a * b)), []) := by
  have la := log2_sm ha
  have lb := log2_sm hb
  have c1 := mul_ok (i := a.num) (j := b.num) (by omega)
  have c3 := mul_ok (i := (a.den : Int)) (j := (b.den : Int)) (by rw [Int.natAbs_natCast, Int.natAbs_natCast]; omega)
  have hd : a.den * b.den < 2 ^ 8000 := Nat.lt_of_lt_of_le (mul_lt_pow ha.2 hb.2) (Nat.pow_le_pow_right (by decide) (by decide))
  have hp : 0 < a.den * b.den := Nat.mul_pos (Nat.pos_of_ne_zero a.den_nz) (Nat.pos_of_ne_zero b.den_nz)
  simp only [m_times, g_times, fr, M.bnd, M.ret, M.stk, sSeq, sRet, sRetN, sIf, sSet, sExpr, sNx, eVar, eC, eBin, eFn, endFn, argF, slotsOf, wr, wr1, outsF, aCons, aNil, eTup, datas, eCal, snaps, snap, handed, eIf, tOf, tNo, tBoth, tAny, eBoth, eAny, eNo, eNeg, eChain, eLst, lDisp, runD, startF, slotOf, Tg.put, Tg.puts, e1, sPar2, eSl, eBits, eVar, oSome, oNone, List.map_cons, List.map_nil, List.length_cons, List.length_nil, List.replicate, List.cons_append, List.nil_append, List.append_nil, List.getElem?_cons_zero, List.getElem?_cons_succ, List.set_cons_zero, List.set_cons_succ, Option.map_some, Option.bind_some, lim0, lim1, lim2, lim3, lim4, lim5, lim6, lim7, lim8, lim9, lim10, lim11, Nat.reduceAdd, Nat.reduceSub, Nat.reduceLT, Nat.reduceEqDiff, if_true, if_false, eq_self, decide_true, decide_false, Bool.false_eq_true, Bool.not_true, Bool.not_false, and_self, and_true, true_and, Nat.zero_lt_succ, Nat.lt_add_one, List.nodup_nil, List.nodup_cons, List.not_mem_nil, not_false_eq_true, ix0, ix1, c1, c3, add_ok, ← Int.natCast_mul]
  rw [t_fraction hp hd, ← Rat.mul_def']
  all_goals rfl
/-! ### the law's own greatest measure -/
theorem mBody_0 {a : Nat} {x : DV} : b__law_measure_1 [some (.d (.int a)), some (.d (.int (0 : Nat))), some (.d x)] = some (.ok (.rt (.int a)), [some (.d (.int a)), some (.d (.int (0 : Nat))), some (.d x)]) := rfl
theorem mBody_s {a b : Nat} {x : DV} (h : 0 < b) : b__law_measure_1 [some (.d (.int a)), some (.d (.int b)), some (.d x)] = some (.ok .nx, [some (.d (.int b)), some (.d (.int ((a % b : Nat) : Int))), some (.d x)]) := by
  have h1 : ((b : Int) == 0) = false := by
    rw [beq_eq_false_iff_ne]; omega
  have h2 := mod_ok (i := (a : Int)) (j := (b : Int)) (by omega)
  simp only [b__law_measure_1, M.bnd, M.ret, M.stk, sSeq, sRet, sRetN, sIf, sSet, sExpr, sNx, eVar, eC, eBin, eFn, endFn, argF, slotsOf, wr, wr1, outsF, aCons, aNil, eTup, datas, eCal, snaps, snap, handed, eIf, tOf, tNo, tBoth, tAny, eBoth, eAny, eNo, eNeg, eChain, eLst, lDisp, runD, startF, slotOf, Tg.put, Tg.puts, e1, sPar2, eSl, eBits, eVar, oSome, oNone, List.map_cons, List.map_nil, List.length_cons, List.length_nil, List.replicate, List.cons_append, List.nil_append, List.append_nil, List.getElem?_cons_zero, List.getElem?_cons_succ, List.set_cons_zero, List.set_cons_succ, Option.map_some, Option.bind_some, lim0, lim1, lim2, lim3, lim4, lim5, lim6, lim7, lim8, lim9, lim10, lim11, Nat.reduceAdd, Nat.reduceSub, Nat.reduceLT, Nat.reduceEqDiff, if_true, if_false, eq_self, decide_true, decide_false, Bool.false_eq_true, Bool.not_true, Bool.not_false, and_self, and_true, true_and, Nat.zero_lt_succ, Nat.lt_add_one, List.nodup_nil, List.nodup_cons, List.not_mem_nil, not_false_eq_true, eq_ok, h1, Bool.false_eq_true, fInt, h2, Int.natCast_emod]
theorem gcd_step (a b : Nat) : Nat.gcd b (a % b) = Nat.gcd a b := by
  rw [Nat.gcd_comm a b, Nat.gcd_rec b a, Nat.gcd_comm]
theorem mLoop_one {a b : Nat} {x : DV} {o : Option SV} {items : List DV} (h : 0 < b) : forLoop (.nm 2) b__law_measure_1 (x :: items) [some (.d (.int a)), some (.d (.int b)), o] = forLoop (.nm 2) b__law_measure_1 items [some (.d (.int b)), some (.d (.int ((a % b : Nat) : Int))), some (.d x)] := by
  have := mBody_s (a := a) (x := x) h
  simp only [forLoop, M.bnd, M.ret, M.stk, sSeq, sRet, sRetN, sIf, sSet, sExpr, sNx, eVar, eC, eBin, eFn, endFn, argF, slotsOf, wr, wr1, outsF, aCons, aNil, eTup, datas, eCal, snaps, snap, handed, eIf, tOf, tNo, tBoth, tAny, eBoth, eAny, eNo, eNeg, eChain, eLst, lDisp, runD, startF, slotOf, Tg.put, Tg.puts, e1, sPar2, eSl, eBits, eVar, oSome, oNone, List.map_cons, List.map_nil, List.length_cons, List.length_nil, List.replicate, List.cons_append, List.nil_append, List.append_nil, List.getElem?_cons_zero, List.getElem?_cons_succ, List.set_cons_zero, List.set_cons_succ, Option.map_some, Option.bind_some, lim0, lim1, lim2, lim3, lim4, lim5, lim6, lim7, lim8, lim9, lim10, lim11, Nat.reduceAdd, Nat.reduceSub, Nat.reduceLT, Nat.reduceEqDiff, if_true, if_false, eq_self, decide_true, decide_false, Bool.false_eq_true, Bool.not_true, Bool.not_false, and_self, and_true, true_and, Nat.zero_lt_succ, Nat.lt_add_one, List.nodup_nil, List.nodup_cons, List.not_mem_nil, not_false_eq_true, this]
theorem mLoop_end {a : Nat} {x : DV} {o : Option SV} {items : List DV} : forLoop (.nm 2) b__law_measure_1 (x :: items) [some (.d (.int a)), some (.d (.int (0 : Nat))), o] = some (.ok (.rt (.int a)), [some (.d (.int a)), some (.d (.int (0 : Nat))), some (.d x)]) := by
  have := mBody_0 (a := a) (x := x)
  simp only [forLoop, M.bnd, M.ret, M.stk, sSeq, sRet, sRetN, sIf, sSet, sExpr, sNx, eVar, eC, eBin, eFn, endFn, argF, slotsOf, wr, wr1, outsF, aCons, aNil, eTup, datas, eCal, snaps, snap, handed, eIf, tOf, tNo, tBoth, tAny, eBoth, eAny, eNo, eNeg, eChain, eLst, lDisp, runD, startF, slotOf, Tg.put, Tg.puts, e1, sPar2, eSl, eBits, eVar, oSome, oNone, List.map_cons, List.map_nil, List.length_cons, List.length_nil, List.replicate, List.cons_append, List.nil_append, List.append_nil, List.getElem?_cons_zero, List.getElem?_cons_succ, List.set_cons_zero, List.set_cons_succ, Option.map_some, Option.bind_some, lim0, lim1, lim2, lim3, lim4, lim5, lim6, lim7, lim8, lim9, lim10, lim11, Nat.reduceAdd, Nat.reduceSub, Nat.reduceLT, Nat.reduceEqDiff, if_true, if_false, eq_self, decide_true, decide_false, Bool.false_eq_true, Bool.not_true, Bool.not_false, and_self, and_true, true_and, Nat.zero_lt_succ, Nat.lt_add_one, List.nodup_nil, List.nodup_cons, List.not_mem_nil, not_false_eq_true, this]
theorem mLoop : ∀ (n a b : Nat) (items : List DV) (o : Option SV), b < 2 ^ n → 2 * n + 1 ≤ items.length → ∃ x y z, forLoop (.nm 2) b__law_measure_1 items [some (.d (.int a)), some (.d (.int b)), o] = some (.ok (.rt (.int ((Nat.gcd a b : Nat) : Int))), [x, y, z]) := by
  intro n
  induction n with
  | zero =>
    intro a b items o hb hl
    have : b = 0 := by simpa using hb
    subst this
    cases items with
    | nil => simp at hl
    | cons x items => exact ⟨_, _, _, by rw [mLoop_end, Nat.gcd_zero_right]⟩
  | succ n ih =>
    intro a b items o hb hl
    cases items with
    | nil => simp at hl
    | cons x items =>
      by_cases z : b = 0
      · subst z
        exact ⟨_, _, _, by rw [mLoop_end, Nat.gcd_zero_right]⟩
      · cases items with
        | nil => simp at hl
        | cons y items =>
          have hb0 : 0 < b := Nat.pos_of_ne_zero z
          rw [mLoop_one hb0, ← gcd_step a b]
          have hr : a % b < b := Nat.mod_lt _ hb0
          by_cases w : a % b = 0
          · rw [w]
            exact ⟨_, _, _, by rw [mLoop_end, Nat.gcd_zero_right]⟩
          · have hw : 0 < a % b := Nat.pos_of_ne_zero w
            rw [mLoop_one hw, ← gcd_step b (a % b)]
            refine ih _ _ items _ ?_ (by simp at hl; omega)
            have h1 : b % (a % b) < a % b := Nat.mod_lt _ hw
            have h2 : b % (a % b) + (a % b) ≤ b := by
              have h3 := Nat.mod_add_div b (a % b)
              have h4 : 1 ≤ b / (a % b) := Nat.div_pos (Nat.le_of_lt hr) hw
              have h5 : (a % b) * 1 ≤ (a % b) * (b / (a % b)) := Nat.mul_le_mul_left _ h4
              omega
            rw [Nat.pow_succ] at hb
            omega
theorem bits_nat (n : Nat) : n < 2 ^ Builtin.Int.intBits (n : Int) := by
  unfold Builtin.Int.intBits
  by_cases z : n = 0
  · subst z; decide
  · simp only [Int.natAbs_natCast]
    first
      | (rw [if_neg z]; exact Nat.lt_log2_self)
      | (simp [z]; exact Nat.lt_log2_self)
theorem bits_le {n k : Nat} (h : n < 2 ^ k) : Builtin.Int.intBits (n : Int) ≤ k := by
  unfold Builtin.Int.intBits
  by_cases z : n = 0
  · subst z; simp
  · have := (Nat.log2_lt z).mpr h
    simp [z]
    omega
theorem abs_ok {i : Int} : fAbs [.int i] = some (.int (i.natAbs : Nat)) := by
  show some (DV.int (if i < 0 then -i else i)) = _
  congr 2
  split <;> omega
theorem rangeD_len {a : Int} {n : Nat} : (rangeD a n).length = n := by simp [rangeD]
theorem t_measure {t u : Int} (ht : t.natAbs < 2 ^ 9000) (hu : u.natAbs < 2 ^ 9000) : m__law_measure [.d (.int t), .d (.int u)] = some (.ok (.int ((Nat.gcd t.natAbs u.natAbs : Nat) : Int)), []) := by
  have b1 := bits_le ht
  have b2 := bits_le hu
  have hm : gMul (.int 2) (.int (((Builtin.Int.intBits (t.natAbs : Int) : Nat) : Int) + ((Builtin.Int.intBits (u.natAbs : Int) : Nat) : Int))) = some (.int (2 * (((Builtin.Int.intBits (t.natAbs : Int) : Nat) : Int) + ((Builtin.Int.intBits (u.natAbs : Int) : Nat) : Int)))) := mul_ok (by
    have : (((Builtin.Int.intBits (t.natAbs : Int) : Nat) : Int) + ((Builtin.Int.intBits (u.natAbs : Int) : Nat) : Int)).natAbs.log2 < 1000 := log_lt (Nat.lt_of_le_of_lt (m := 18000) (by omega) (by decide)) (by decide)
    have h2 : (2 : Int).natAbs.log2 < 1000 := by decide
    omega)
  obtain ⟨x1, x2, x3, hf⟩ := mLoop (Builtin.Int.intBits (u.natAbs : Int)) t.natAbs u.natAbs (rangeD 0 (2 * (((Builtin.Int.intBits (t.natAbs : Int) : Nat) : Int) + ((Builtin.Int.intBits (u.natAbs : Int) : Nat) : Int)) + 2 : Int).toNat) none (bits_nat _) (by rw [rangeD_len]; omega)
  have hl : -(LIM : Int) ≤ (2 * (((Builtin.Int.intBits (t.natAbs : Int) : Nat) : Int) + ((Builtin.Int.intBits (u.natAbs : Int) : Nat) : Int)) + 2 : Int) ∧ (2 * (((Builtin.Int.intBits (t.natAbs : Int) : Nat) : Int) + ((Builtin.Int.intBits (u.natAbs : Int) : Nat) : Int)) + 2 : Int) ≤ LIM := by
    rw [lim_int]; omega
  simp only [m__law_measure, g__law_measure, sFor, i__law_measure_1, iRg1, M.bnd, M.ret, M.stk, sSeq, sRet, sRetN, sIf, sSet, sExpr, sNx, eVar, eC, eBin, eFn, endFn, argF, slotsOf, wr, wr1, outsF, aCons, aNil, eTup, datas, eCal, snaps, snap, handed, eIf, tOf, tNo, tBoth, tAny, eBoth, eAny, eNo, eNeg, eChain, eLst, lDisp, runD, startF, slotOf, Tg.put, Tg.puts, e1, sPar2, eSl, eBits, eVar, oSome, oNone, List.map_cons, List.map_nil, List.length_cons, List.length_nil, List.replicate, List.cons_append, List.nil_append, List.append_nil, List.getElem?_cons_zero, List.getElem?_cons_succ, List.set_cons_zero, List.set_cons_succ, Option.map_some, Option.bind_some, lim0, lim1, lim2, lim3, lim4, lim5, lim6, lim7, lim8, lim9, lim10, lim11, Nat.reduceAdd, Nat.reduceSub, Nat.reduceLT, Nat.reduceEqDiff, if_true, if_false, eq_self, decide_true, decide_false, Bool.false_eq_true, Bool.not_true, Bool.not_false, and_self, and_true, true_and, Nat.zero_lt_succ, Nat.lt_add_one, List.nodup_nil, List.nodup_cons, List.not_mem_nil, not_false_eq_true, abs_ok, add_ok, hm, if_pos hl]
  rw [hf]
  rfl
theorem t_frac {t : Int} {u : Nat} (hu : 0 < u) (hb : u < 2 ^ 8000) (ht : t.natAbs < 2 ^ 9000) : m__law_frac [.d (.int t), .d (.int u)] = some (.ok (fr (mkRat t u)), []) := by
  have g0 : 0 < Nat.gcd t.natAbs u := Nat.gcd_pos_of_pos_right _ hu
  have gle : Nat.gcd t.natAbs u ≤ u := Nat.gcd_le_right _ hu
  have l1 : (Nat.gcd t.natAbs u).log2 < 9000 := Nat.lt_of_lt_of_le (log_lt (Nat.lt_of_le_of_lt gle hb) (by decide)) (by decide)
  have c : 0 < ((Nat.gcd t.natAbs u : Nat) : Int) ∧ ((Nat.gcd t.natAbs u : Nat) : Int).natAbs.log2 < 9000 := ⟨by omega, by rw [Int.natAbs_natCast]; exact l1⟩
  have z : ((u : Int) > 0) := by omega
  have hm := t_measure (t := t) (u := (u : Int)) ht (by rw [Int.natAbs_natCast]; exact Nat.lt_of_lt_of_le hb (Nat.pow_le_pow_right (by decide) (by decide)))
  rw [Int.natAbs_natCast] at hm
  have c2 : gMul (.int ((Nat.gcd t.natAbs u : Nat) : Int)) (.int 1) = some (.int ((Nat.gcd t.natAbs u : Nat) : Int)) := by
    rw [mul_ok (by rw [Int.natAbs_natCast]; have : (1 : Int).natAbs.log2 = 0 := by decide
                   omega), Int.mul_one]
  simp only [m__law_frac, g__law_frac, M.bnd, M.ret, M.stk, sSeq, sRet, sRetN, sIf, sSet, sExpr, sNx, eVar, eC, eBin, eFn, endFn, argF, slotsOf, wr, wr1, outsF, aCons, aNil, eTup, datas, eCal, snaps, snap, handed, eIf, tOf, tNo, tBoth, tAny, eBoth, eAny, eNo, eNeg, eChain, eLst, lDisp, runD, startF, slotOf, Tg.put, Tg.puts, e1, sPar2, eSl, eBits, eVar, oSome, oNone, List.map_cons, List.map_nil, List.length_cons, List.length_nil, List.replicate, List.cons_append, List.nil_append, List.append_nil, List.getElem?_cons_zero, List.getElem?_cons_succ, List.set_cons_zero, List.set_cons_succ, Option.map_some, Option.bind_some, lim0, lim1, lim2, lim3, lim4, lim5, lim6, lim7, lim8, lim9, lim10, lim11, Nat.reduceAdd, Nat.reduceSub, Nat.reduceLT, Nat.reduceEqDiff, if_true, if_false, eq_self, decide_true, decide_false, Bool.false_eq_true, Bool.not_true, Bool.not_false, and_self, and_true, true_and, Nat.zero_lt_succ, Nat.lt_add_one, List.nodup_nil, List.nodup_cons, List.not_mem_nil, not_false_eq_true, gt_ok, hm, decide_eq_true z, c2, fdiv_ok c, fr, mk_num hu, mk_den hu]
  all_goals rfl
theorem t_lplus {a b : Rat} (ha : Sm a) (hb : Sm b) : m__law_plus [.d (fr a), .d (fr b)] = some (.ok (fr (a + b)), []) := by
  have la := log2_sm ha
  have lb := log2_sm hb
  have c1 := mul_ok (i := a.num) (j := (b.den : Int)) (by rw [Int.natAbs_natCast]; omega)
  have c2 := mul_ok (i := b.num) (j := (a.den : Int)) (by rw [Int.natAbs_natCast]; omega)
  have c3 := mul_ok (i := (a.den : Int)) (j := (b.den : Int)) (by rw [Int.natAbs_natCast, Int.natAbs_natCast]; omega)
  have hd : a.den * b.den < 2 ^ 8000 := Nat.lt_of_lt_of_le (mul_lt_pow ha.2 hb.2) (Nat.pow_le_pow_right (by decide) (by decide))
  have hp : 0 < a.den * b.den := Nat.mul_pos (Nat.pos_of_ne_zero a.den_nz) (Nat.pos_of_ne_zero b.den_nz)
  have k1 : (a.num * b.den).natAbs < 2 ^ 2000 := by rw [Int.natAbs_mul, Int.natAbs_natCast]; exact mul_lt_pow ha.1 hb.2
  have k2 : (b.num * a.den).natAbs < 2 ^ 2000 := by rw [Int.natAbs_mul, Int.natAbs_natCast]; exact mul_lt_pow hb.1 ha.2
  have k3 : (a.num * b.den + b.num * a.den).natAbs < 2 ^ 9000 := Nat.lt_of_lt_of_le (Nat.lt_of_le_of_lt (Int.natAbs_add_le ..) (show _ < 2 ^ 2001 by rw [Nat.pow_succ]; omega)) (Nat.pow_le_pow_right (by decide) (by decide))
  simp only [m__law_plus, g__law_plus, fr, M.bnd, M.ret, M.stk, sSeq, sRet, sRetN, sIf, sSet, sExpr, sNx, eVar, eC, eBin, eFn, endFn, argF, slotsOf, wr, wr1, outsF, aCons, aNil, eTup, datas, eCal, snaps, snap, handed, eIf, tOf, tNo, tBoth, tAny, eBoth, eAny, eNo, eNeg, eChain, eLst, lDisp, runD, startF, slotOf, Tg.put, Tg.puts, e1, sPar2, eSl, eBits, eVar, oSome, oNone, List.map_cons, List.map_nil, List.length_cons, List.length_nil, List.replicate, List.cons_append, List.nil_append, List.append_nil, List.getElem?_cons_zero, List.getElem?_cons_succ, List.set_cons_zero, List.set_cons_succ, Option.map_some, Option.bind_some, lim0, lim1, lim2, lim3, lim4, lim5, lim6, lim7, lim8, lim9, lim10, lim11, Nat.reduceAdd, Nat.reduceSub, Nat.reduceLT, Nat.reduceEqDiff, if_true, if_false, eq_self, decide_true, decide_false, Bool.false_eq_true, Bool.not_true, Bool.not_false, and_self, and_true, true_and, Nat.zero_lt_succ, Nat.lt_add_one, List.nodup_nil, List.nodup_cons, List.not_mem_nil, not_false_eq_true, ix0, ix1, c1, c2, c3, add_ok, ← Int.natCast_mul]
  rw [t_frac hp hd k3, ← Rat.add_def']
  all_goals rfl
theorem t_lby {a b : Rat} (ha : Sm a) (hb : Sm b) : m__law_by [.d (fr a), .d (fr b)] = some (.ok (fr (a * b)), []) := by
  have la := log2_sm ha
  have lb := log2_sm hb
  have c1 := mul_ok (i := a.num) (j := b.num) (by omega)
  have c3 := mul_ok (i := (a.den : Int)) (j := (b.den : Int)) (by rw [Int.natAbs_natCast, Int.natAbs_natCast]; omega)
  have hd : a.den * b.den < 2 ^ 8000 := Nat.lt_of_lt_of_le (mul_lt_pow ha.2 hb.2) (Nat.pow_le_pow_right (by decide) (by decide))
  have hp : 0 < a.den * b.den := Nat.mul_pos (Nat.pos_of_ne_zero a.den_nz) (Nat.pos_of_ne_zero b.den_nz)
  have k3 : (a.num * b.num).natAbs < 2 ^ 9000 := by rw [Int.natAbs_mul]; exact Nat.lt_of_lt_of_le (mul_lt_pow ha.1 hb.1) (Nat.pow_le_pow_right (by decide) (by decide))
  simp only [m__law_by, g__law_by, fr, M.bnd, M.ret, M.stk, sSeq, sRet, sRetN, sIf, sSet, sExpr, sNx, eVar, eC, eBin, eFn, endFn, argF, slotsOf, wr, wr1, outsF, aCons, aNil, eTup, datas, eCal, snaps, snap, handed, eIf, tOf, tNo, tBoth, tAny, eBoth, eAny, eNo, eNeg, eChain, eLst, lDisp, runD, startF, slotOf, Tg.put, Tg.puts, e1, sPar2, eSl, eBits, eVar, oSome, oNone, List.map_cons, List.map_nil, List.length_cons, List.length_nil, List.replicate, List.cons_append, List.nil_append, List.append_nil, List.getElem?_cons_zero, List.getElem?_cons_succ, List.set_cons_zero, List.set_cons_succ, Option.map_some, Option.bind_some, lim0, lim1, lim2, lim3, lim4, lim5, lim6, lim7, lim8, lim9, lim10, lim11, Nat.reduceAdd, Nat.reduceSub, Nat.reduceLT, Nat.reduceEqDiff, if_true, if_false, eq_self, decide_true, decide_false, Bool.false_eq_true, Bool.not_true, Bool.not_false, and_self, and_true, true_and, Nat.zero_lt_succ, Nat.lt_add_one, List.nodup_nil, List.nodup_cons, List.not_mem_nil, not_false_eq_true, ix0, ix1, c1, c3, add_ok, ← Int.natCast_mul]
  rw [t_frac hp hd k3, ← Rat.mul_def']
  all_goals rfl
end L50
set_option maxRecDepth 100000
set_option maxHeartbeats 1000000
namespace L50
open PySem DL
/-! ### loops -/
theorem lc_of {α : Type} {T : Tg} {fe : EF} (enc F : α → DV) (I : Frm → Prop) : ∀ (l : List α) (f : Frm), (∀ a ∈ l, ∀ f, I f → ∃ f1 f3, T.put (enc a) (wipeF f T.slots) = some f1 ∧ fe f1 = some (.ok (.d (F a)), f3) ∧ I f3) → I f → ∃ f', lcLoop T (M.ret true) fe (l.map enc) f = some (l.map F, f') ∧ I f'
  | [], f, _, hf => ⟨f, rfl, hf⟩
  | a :: l, f, h, hf => by
    obtain ⟨f1, f3, h1, h2, h3⟩ := h a (List.mem_cons_self ..) f hf
    obtain ⟨f', h4, h5⟩ := lc_of enc F I l f3 (fun b hb => h b (List.mem_cons_of_mem _ hb)) h3
    refine ⟨f', ?_, h5⟩
    simp only [List.map_cons, lcLoop, h1, M.ret, h2, h4, Option.map_some]
/-- results of which a property is told -/
theorem lc_some {T : Tg} {fe : EF} (I : Frm → Prop) (R : DV → Prop) : ∀ (xs : List DV) (f : Frm), (∀ x ∈ xs, ∀ f, I f → ∃ f1 y f3, T.put x (wipeF f T.slots) = some f1 ∧ fe f1 = some (.ok (.d y), f3) ∧ I f3 ∧ R y) → I f → ∃ ys f', lcLoop T (M.ret true) fe xs f = some (ys, f') ∧ I f' ∧ ys.length = xs.length ∧ ∀ y ∈ ys, R y
  | [], f, _, hf => ⟨[], f, rfl, hf, rfl, fun y hy => by cases hy⟩
  | a :: l, f, h, hf => by
    obtain ⟨f1, y, f3, h1, h2, h3, h4⟩ := h a (List.mem_cons_self ..) f hf
    obtain ⟨ys, f', h5, h6, h7, h8⟩ := lc_some I R l f3 (fun b hb => h b (List.mem_cons_of_mem _ hb)) h3
    refine ⟨y :: ys, f', ?_, h6, congrArg Nat.succ h7, fun z hz => ?_⟩
    · simp only [lcLoop, h1, M.ret, h2, h5, Option.map_some]
    · rcases List.mem_cons.mp hz with hz | hz
      · subst hz; exact h4
      · exact h8 z hz
theorem comp_ok {T : Tg} {fi : IF} {tt : TF} {fe : EF} {fr fr1 f' : Frm} {items ys : List DV} (h1 : fi fr = some (.ok items, fr1)) (h2 : clearF fr1 T.slots = true) (h3 : lcLoop T tt fe items fr1 = some (ys, f')) (h4 : ys.length ≤ LIM) : lComp T fi tt fe fr = some (.ok ys, backF fr1 f' T.slots) := by
  unfold lComp M.bnd
  simp only [h1, h2, h3, if_true, if_pos h4]
theorem lim_of {n : Nat} (h : n ≤ 100) : n ≤ LIM := Nat.le_trans h (by decide)
theorem comp_pure {α : Type} {T : Tg} {fi : IF} {fe : EF} {fr W : Frm} {enc F : α → DV} (P : α → Frm) {l : List α} (h1 : fi fr = some (.ok (l.map enc), fr)) (h2 : clearF fr T.slots = true) (hw : wipeF fr T.slots = W) (hP : ∀ a, T.put (enc a) W = some (P a)) (hPw : ∀ a, wipeF (P a) T.slots = W)
    (hb : ∀ a, backF fr (P a) T.slots = fr) (hb0 : backF fr fr T.slots = fr) (hf : ∀ a ∈ l, fe (P a) = some (.ok (.d (F a)), P a)) (hl : l.length ≤ 100) : lComp T fi (M.ret true) fe fr = some (.ok (l.map F), fr) := by
  obtain ⟨f', k1, _, k2⟩ := lc_of (T := T) (fe := fe) enc F (fun f => wipeF f T.slots = W ∧ backF fr f T.slots = fr) l fr (fun a ha f hf' => ⟨P a, P a, by rw [hf'.1]; exact hP a, hf a ha, hPw a, hb a⟩) ⟨hw, hb0⟩
  rw [comp_ok h1 h2 k1 (lim_of (by simpa using hl)), k2]
theorem for_of {T : Tg} {body : SF} (I : List DV → Frm → Prop) : ∀ (xs : List DV) (f : Frm), (∀ x r f, I (x :: r) f → ∃ f1 f2, T.put x f = some f1 ∧ body f1 = some (.ok .nx, f2) ∧ I r f2) → I xs f → ∃ f', forLoop T body xs f = some (.ok .nx, f') ∧ I [] f'
  | [], f, _, hf => ⟨f, rfl, hf⟩
  | x :: xs, f, h, hf => by
    obtain ⟨f1, f2, h1, h2, h3⟩ := h x xs f hf
    obtain ⟨f', h4, h5⟩ := for_of I xs f2 h h3
    exact ⟨f', by simp only [forLoop, h1, h2, h4], h5⟩
/-! ### polynomials -/
def po (p : List Rat) : DV := .tup (p.map fr)
def pl (p : List Rat) : DV := .lst (p.map fr)
def Sms (p : List Rat) : Prop := ∀ q ∈ p, Sm q
def trim : List Rat → List Rat
  | [] => []
  | a :: l => match trim l with
    | [] => if a = 0 then [] else [a]
    | b :: t => a :: b :: t
theorem trim_snoc0 : ∀ l : List Rat, trim (l ++ [0]) = trim l
  | [] => by simp [trim]
  | a :: l => by simp only [List.cons_append, trim, trim_snoc0 l]
theorem trim_snoc {x : Rat} (h : x ≠ 0) : ∀ l : List Rat, trim (l ++ [x]) = l ++ [x]
  | [] => by simp [trim, h]
  | a :: l => by
    simp only [List.cons_append, trim, trim_snoc h l]
    cases hl : l ++ [x] with
    | nil => simp at hl
    | cons b t => rfl
theorem fr_inj {a b : Rat} (h : fr a = fr b) : a = b := by
  simp only [fr, DV.tup.injEq, List.cons.injEq, DV.int.injEq, and_true] at h
  exact Rat.ext h.1 (by omega)
theorem fr0 : fr 0 = c_NOUGHT := rfl
theorem eq_fr {a b : Rat} : gEq (fr a) (fr b) = some (.bl (decide (a = b))) := by
  have h1 : gEq (fr a) (fr b) = some (.bl ((a.num == b.num) && (((a.den : Int) == (b.den : Int)) && true))) := rfl
  rw [h1]
  congr 2
  by_cases h : a = b
  · subst h; simp
  · simp only [h, decide_false, Bool.and_true, Bool.and_eq_false_iff, beq_eq_false_iff_ne, ne_eq]
    by_cases hn : a.num = b.num
    · right
      intro hd
      exact h (Rat.ext hn (by omega))
    · exact .inl hn
theorem sl_to {d : List DV} {n : Nat} (h : n ≤ d.length) : gSl (.lst d) none (some (n : Int)) = some (.lst (d.take n)) := by
  show some (DV.lst (cutD d none (some (n : Int)))) = _
  unfold cutD
  have h1 : HT.sIx d.length 0 none = 0 := HT.sIx_none _ _
  have h2 : HT.sIx d.length d.length (some (n : Int)) = n := by rw [HT.sIx_nat]; omega
  rw [h1, h2]
  simp
theorem ix_at {d : List DV} {n : Nat} {x : DV} (h : d[n]? = some x) : gIx (.lst d) (.int (n : Int)) = some x := by
  have hn : n < d.length := by
    by_cases z : n < d.length
    · exact z
    · rw [List.getElem?_eq_none (by omega)] at h; cases h
  show L2.atI d (n : Int) = some x
  unfold L2.atI L2.ixN
  rw [if_pos (by omega), if_pos (by omega)]
  simpa using h
theorem wh_step {t : TF} {b : SF} {n : Nat} {f f1 : Frm} (h1 : t f = some (.ok true, f)) (h2 : b f = some (.ok .nx, f1)) : whLoop t b (n + 1) f = whLoop t b n f1 := by
  simp only [whLoop, M.bnd, h1, if_true, h2]
theorem wh_stop {t : TF} {b : SF} {n : Nat} {f : Frm} (h1 : t f = some (.ok false, f)) : whLoop t b (n + 1) f = some (.ok .nx, f) := by
  simp only [whLoop, M.bnd, h1, Bool.false_eq_true, if_false, M.ret]
theorem get_pl {p : List Rat} {n : Nat} {a : Rat} (h : p[n]? = some a) : (p.map fr)[n]? = some (fr a) := by rw [List.getElem?_map, h]; rfl
theorem less_loop (p : List Rat) : ∀ (m : Nat) (q r : List Rat) (n : Nat), q.length = m → p = q ++ r → trim p = trim q → m < n → ∃ k : Nat, k ≤ p.length ∧ trim p = p.take k ∧ whLoop q_lessened_1 b_lessened_1 n [some (.d (pl p)), some (.d (.int (m : Nat)))] = some (.ok .nx, [some (.d (pl p)), some (.d (.int (k : Nat)))]) := by
  intro m
  induction m with
  | zero =>
    intro q r n hq hp ht hn
    have : q = [] := List.eq_nil_of_length_eq_zero hq
    subst this
    cases n with
    | zero => omega
    | succ n => exact ⟨0, Nat.zero_le _, by rw [ht]; simp [trim], wh_stop rfl⟩
  | succ m ih =>
    intro q r n hq hp ht hn
    rcases List.eq_nil_or_concat q with e | ⟨q', a, e⟩
    · subst e; simp at hq
    · rw [List.concat_eq_append] at e
      subst e
      have hl : q'.length = m := by simpa using hq
      cases n with
      | zero => omega
      | succ n =>
        have hg : p[m]? = some a := by
          rw [hp, ← hl]; simp
        have e1 : (((m + 1 : Nat) : Int) > 0) := by omega
        have e2 : gSub (.int ((m + 1 : Nat) : Int)) (.int 1) = some (.int (m : Nat)) := by
          rw [sub_ok]; congr 2; omega
        have e3 : gIx (pl p) (.int (m : Nat)) = some (fr a) := ix_at (get_pl hg)
        have e4 : gEq (fr a) c_NOUGHT = some (.bl (decide (a = 0))) := by rw [← fr0]; exact eq_fr
        have ht1 : q_lessened_1 [some (.d (pl p)), some (.d (.int ((m + 1 : Nat) : Int)))] = some (.ok (decide (a = 0)), [some (.d (pl p)), some (.d (.int ((m + 1 : Nat) : Int)))]) := by
          simp only [q_lessened_1, M.bnd, M.ret, M.stk, sSeq, sRet, sRetN, sIf, sSet, sExpr, sNx, eVar, eC, eBin, eFn, endFn, argF, slotsOf, wr, wr1, outsF, aCons, aNil, eTup, datas, eCal, snaps, snap, handed, eIf, tOf, tNo, tBoth, tAny, eBoth, eAny, eNo, eNeg, eChain, eLst, lDisp, runD, startF, slotOf, Tg.put, Tg.puts, e1, sPar2, eSl, eBits, eVar, oSome, oNone, List.map_cons, List.map_nil, List.length_cons, List.length_nil, List.replicate, List.cons_append, List.nil_append, List.append_nil, List.getElem?_cons_zero, List.getElem?_cons_succ, List.set_cons_zero, List.set_cons_succ, Option.map_some, Option.bind_some, lim0, lim1, lim2, lim3, lim4, lim5, lim6, lim7, lim8, lim9, lim10, lim11, Nat.reduceAdd, Nat.reduceSub, Nat.reduceLT, Nat.reduceEqDiff, if_true, if_false, eq_self, decide_true, decide_false, Bool.false_eq_true, Bool.not_true, Bool.not_false, and_self, and_true, true_and, Nat.zero_lt_succ, Nat.lt_add_one, List.nodup_nil, List.nodup_cons, List.not_mem_nil, not_false_eq_true, gt_ok, decide_eq_true e1, e2, e3, e4]
        by_cases z : a = 0
        · subst z
          have hb : b_lessened_1 [some (.d (pl p)), some (.d (.int ((m + 1 : Nat) : Int)))] = some (.ok .nx, [some (.d (pl p)), some (.d (.int (m : Nat)))]) := by
            simp only [b_lessened_1, M.bnd, M.ret, M.stk, sSeq, sRet, sRetN, sIf, sSet, sExpr, sNx, eVar, eC, eBin, eFn, endFn, argF, slotsOf, wr, wr1, outsF, aCons, aNil, eTup, datas, eCal, snaps, snap, handed, eIf, tOf, tNo, tBoth, tAny, eBoth, eAny, eNo, eNeg, eChain, eLst, lDisp, runD, startF, slotOf, Tg.put, Tg.puts, e1, sPar2, eSl, eBits, eVar, oSome, oNone, List.map_cons, List.map_nil, List.length_cons, List.length_nil, List.replicate, List.cons_append, List.nil_append, List.append_nil, List.getElem?_cons_zero, List.getElem?_cons_succ, List.set_cons_zero, List.set_cons_succ, Option.map_some, Option.bind_some, lim0, lim1, lim2, lim3, lim4, lim5, lim6, lim7, lim8, lim9, lim10, lim11, Nat.reduceAdd, Nat.reduceSub, Nat.reduceLT, Nat.reduceEqDiff, if_true, if_false, eq_self, decide_true, decide_false, Bool.false_eq_true, Bool.not_true, Bool.not_false, and_self, and_true, true_and, Nat.zero_lt_succ, Nat.lt_add_one, List.nodup_nil, List.nodup_cons, List.not_mem_nil, not_false_eq_true, e2]
          obtain ⟨k, k1, k2, k3⟩ := ih q' (0 :: r) n hl (by rw [hp]; simp) (by rw [ht, trim_snoc0]) (by omega)
          exact ⟨k, k1, k2, by rw [wh_step (by simpa using ht1) hb]; exact k3⟩
        · refine ⟨m + 1, ?_, ?_, wh_stop (by simpa [z] using ht1)⟩
          · rw [hp, ← hq]; simp
          · rw [ht, trim_snoc z, hp, ← hq, List.take_left']; rfl
theorem take_map {p : List Rat} {k : Nat} : (p.map fr).take k = (p.take k).map fr := List.map_take.symm
theorem t_lessened {p : List Rat} (h : p.length ≤ 100) : m_lessened [.d (pl p)] = some (.ok (po (trim p)), []) := by
  obtain ⟨k, k1, k2, k3⟩ := less_loop p p.length p [] 1000 rfl (by simp) rfl (by omega)
  have e1 : fLen [pl p] = some (.int (p.length : Nat)) := by
    show some (DV.int (((p.map fr).length : Nat) : Int)) = _
    rw [List.length_map]
  have e2 : gSl (pl p) none (some (k : Int)) = some (.lst ((p.take k).map fr)) := by
    unfold pl
    rw [sl_to (by rw [List.length_map]; exact k1), take_map]
  simp only [m_lessened, g_lessened, sWh, M.bnd, M.ret, M.stk, sSeq, sRet, sRetN, sIf, sSet, sExpr, sNx, eVar, eC, eBin, eFn, endFn, argF, slotsOf, wr, wr1, outsF, aCons, aNil, eTup, datas, eCal, snaps, snap, handed, eIf, tOf, tNo, tBoth, tAny, eBoth, eAny, eNo, eNeg, eChain, eLst, lDisp, runD, startF, slotOf, Tg.put, Tg.puts, e1, sPar2, eSl, eBits, eVar, oSome, oNone, List.map_cons, List.map_nil, List.length_cons, List.length_nil, List.replicate, List.cons_append, List.nil_append, List.append_nil, List.getElem?_cons_zero, List.getElem?_cons_succ, List.set_cons_zero, List.set_cons_succ, Option.map_some, Option.bind_some, lim0, lim1, lim2, lim3, lim4, lim5, lim6, lim7, lim8, lim9, lim10, lim11, Nat.reduceAdd, Nat.reduceSub, Nat.reduceLT, Nat.reduceEqDiff, if_true, if_false, eq_self, decide_true, decide_false, Bool.false_eq_true, Bool.not_true, Bool.not_false, and_self, and_true, true_and, Nat.zero_lt_succ, Nat.lt_add_one, List.nodup_nil, List.nodup_cons, List.not_mem_nil, not_false_eq_true, e1, k3, e2, k2, po, fTup]
theorem t_padded {p : List Rat} {n : Nat} (h : p.length ≤ 100) (hn : n ≤ 100) : m_padded [.d (po p), .d (.int (n : Nat))] = some (.ok (po (p ++ List.replicate (n - p.length) 0)), []) := by
  have e1 : fLen [po p] = some (.int (p.length : Nat)) := by
    show some (DV.int (((p.map fr).length : Nat) : Int)) = _
    rw [List.length_map]
  have e2 : gMul (.tup [c_NOUGHT]) (.int ((n : Int) - (p.length : Nat))) = some (.tup ((List.replicate (n - p.length) (0 : Rat)).map fr)) := by
    show (if ((n : Int) - (p.length : Nat)) ≤ 1000 ∧ -1000 ≤ ((n : Int) - (p.length : Nat)) ∧ [c_NOUGHT].length ≤ 1000 then some (DV.tup (List.replicate ((n : Int) - (p.length : Nat)).toNat [c_NOUGHT]).flatten) else none) = _
    rw [if_pos ⟨by omega, by omega, by decide⟩, show ((n : Int) - (p.length : Nat)).toNat = n - p.length by omega]
    congr 2
    induction (n - p.length) with
    | zero => rfl
    | succ m ih => rw [List.replicate_succ, List.flatten_cons, ih, List.replicate_succ]; rfl
  have e3 : gAdd (po p) (.tup ((List.replicate (n - p.length) (0 : Rat)).map fr)) = some (po (p ++ List.replicate (n - p.length) 0)) := by
    show (if (p.map fr).length + ((List.replicate (n - p.length) (0 : Rat)).map fr).length ≤ LIM then some (DV.tup (p.map fr ++ (List.replicate (n - p.length) (0 : Rat)).map fr)) else none) = _
    rw [if_pos (Nat.le_trans (m := 200) (by simp; omega) (by decide)), po, List.map_append]
  simp only [m_padded, g_padded, M.bnd, M.ret, M.stk, sSeq, sRet, sRetN, sIf, sSet, sExpr, sNx, eVar, eC, eBin, eFn, endFn, argF, slotsOf, wr, wr1, outsF, aCons, aNil, eTup, datas, eCal, snaps, snap, handed, eIf, tOf, tNo, tBoth, tAny, eBoth, eAny, eNo, eNeg, eChain, eLst, lDisp, runD, startF, slotOf, Tg.put, Tg.puts, e1, sPar2, eSl, eBits, eVar, oSome, oNone, List.map_cons, List.map_nil, List.length_cons, List.length_nil, List.replicate, List.cons_append, List.nil_append, List.append_nil, List.getElem?_cons_zero, List.getElem?_cons_succ, List.set_cons_zero, List.set_cons_succ, Option.map_some, Option.bind_some, lim0, lim1, lim2, lim3, lim4, lim5, lim6, lim7, lim8, lim9, lim10, lim11, Nat.reduceAdd, Nat.reduceSub, Nat.reduceLT, Nat.reduceEqDiff, if_true, if_false, eq_self, decide_true, decide_false, Bool.false_eq_true, Bool.not_true, Bool.not_false, and_self, and_true, true_and, Nat.zero_lt_succ, Nat.lt_add_one, List.nodup_nil, List.nodup_cons, List.not_mem_nil, not_false_eq_true, e1, sub_ok, e2, e3]
theorem t_scaled {p : List Rat} {c : Rat} (h : p.length ≤ 100) (hp : Sms p) (hc : Sm c) : m_scaled [.d (po p), .d (fr c)] = some (.ok (po (trim (p.map (c * ·)))), []) := by
  have hcmp := comp_pure (T := .nm 2) (fi := i_scaled_1) (fe := x_scaled_1) (fr := [some (.d (po p)), some (.d (fr c)), none]) (enc := L50.fr) (F := L50.fr ∘ (c * ·)) (fun a => [some (.d (po p)), some (.d (fr c)), some (.d (fr a))]) (l := p) rfl rfl rfl (fun _ => rfl) (fun _ => rfl) (fun _ => rfl) rfl (fun a ha => by
    simp only [x_scaled_1, M.bnd, M.ret, M.stk, sSeq, sRet, sRetN, sIf, sSet, sExpr, sNx, eVar, eC, eBin, eFn, endFn, argF, slotsOf, wr, wr1, outsF, aCons, aNil, eTup, datas, eCal, snaps, snap, handed, eIf, tOf, tNo, tBoth, tAny, eBoth, eAny, eNo, eNeg, eChain, eLst, lDisp, runD, startF, slotOf, Tg.put, Tg.puts, e1, sPar2, eSl, eBits, eVar, oSome, oNone, List.map_cons, List.map_nil, List.length_cons, List.length_nil, List.replicate, List.cons_append, List.nil_append, List.append_nil, List.getElem?_cons_zero, List.getElem?_cons_succ, List.set_cons_zero, List.set_cons_succ, Option.map_some, Option.bind_some, lim0, lim1, lim2, lim3, lim4, lim5, lim6, lim7, lim8, lim9, lim10, lim11, Nat.reduceAdd, Nat.reduceSub, Nat.reduceLT, Nat.reduceEqDiff, if_true, if_false, eq_self, decide_true, decide_false, Bool.false_eq_true, Bool.not_true, Bool.not_false, and_self, and_true, true_and, Nat.zero_lt_succ, Nat.lt_add_one, List.nodup_nil, List.nodup_cons, List.not_mem_nil, not_false_eq_true, t_times hc (hp a ha), Function.comp]) h
  have e2 := t_lessened (p := p.map (c * ·)) (by simpa using h)
  unfold pl at e2
  rw [List.map_map] at e2
  simp only [m_scaled, g_scaled, ↓hcmp, hcmp, M.bnd, M.ret, M.stk, sSeq, sRet, sRetN, sIf, sSet, sExpr, sNx, eVar, eC, eBin, eFn, endFn, argF, slotsOf, wr, wr1, outsF, aCons, aNil, eTup, datas, eCal, snaps, snap, handed, eIf, tOf, tNo, tBoth, tAny, eBoth, eAny, eNo, eNeg, eChain, eLst, lDisp, runD, startF, slotOf, Tg.put, Tg.puts, e1, sPar2, eSl, eBits, eVar, oSome, oNone, List.map_cons, List.map_nil, List.length_cons, List.length_nil, List.replicate, List.cons_append, List.nil_append, List.append_nil, List.getElem?_cons_zero, List.getElem?_cons_succ, List.set_cons_zero, List.set_cons_succ, Option.map_some, Option.bind_some, lim0, lim1, lim2, lim3, lim4, lim5, lim6, lim7, lim8, lim9, lim10, lim11, Nat.reduceAdd, Nat.reduceSub, Nat.reduceLT, Nat.reduceEqDiff, if_true, if_false, eq_self, decide_true, decide_false, Bool.false_eq_true, Bool.not_true, Bool.not_false, and_self, and_true, true_and, Nat.zero_lt_succ, Nat.lt_add_one, List.nodup_nil, List.nodup_cons, List.not_mem_nil, not_false_eq_true, e2]
def addL (p q : List Rat) : List Rat := (List.range (max p.length q.length)).map fun i => p.getD i 0 + q.getD i 0
theorem zip_pad (f : Rat → Rat → Rat) : ∀ (p q : List Rat), p.length = q.length → (p.zip q).map (fun z => f z.1 z.2) = (List.range p.length).map fun i => f (p.getD i 0) (q.getD i 0) := by
  intro p q h
  apply List.ext_getElem
  · simp [h]
  · intro i h1 h2
    simp at h1 h2
    have h3 : i < q.length := by omega
    simp [h2, h3]
theorem zipD_map : ∀ (p q : List Rat), zipD (p.map fr) (q.map fr) = (p.zip q).map fun z => .tup [fr z.1, fr z.2]
  | [], q => by simp [zipD]
  | a :: p, [] => by simp [zipD]
  | a :: p, b :: q => by simp only [List.map_cons, zipD, zipD_map p q, List.zip_cons_cons]
theorem zip_po {p q : List Rat} : zipIt (po p) (po q) = some ((p.zip q).map fun z => .tup [fr z.1, fr z.2]) := by
  show some (zipD (p.map fr) (q.map fr)) = _
  rw [zipD_map]
theorem t_sum_by {p q : List Rat} (h : p.length ≤ 100) (k : q.length ≤ 100) (hp : Sms p) (hq : Sms q) : m_sum_by [.d (po p), .d (po q)] = some (.ok (po (trim (addL p q))), []) := by
  have e0 : ∀ r : List Rat, fLen [po r] = some (.int (r.length : Nat)) := fun r => by
    show some (DV.int (((r.map fr).length : Nat) : Int)) = _
    rw [List.length_map]
  have e1 : fMax [.int (p.length : Nat), .int (q.length : Nat)] = some (.int ((max p.length q.length : Nat) : Int)) := by
    show some (DV.int (if ((q.length : Nat) : Int) > ((p.length : Nat) : Int) then ((q.length : Nat) : Int) else ((p.length : Nat) : Int))) = _
    congr 2
    split <;> omega
  have e2 := t_padded (p := p) (n := max p.length q.length) h (by omega)
  have e3 := t_padded (p := q) (n := max p.length q.length) k (by omega)
  have s0 : Sm 0 := ⟨by decide, by decide⟩
  have spad : ∀ (r : List Rat) (n : Nat), Sms r → Sms (r ++ List.replicate n 0) := fun r n hr x hx => by
    rcases List.mem_append.mp hx with hx | hx
    · exact hr x hx
    · rw [List.eq_of_mem_replicate hx]; exact s0
  let F0 : Frm := [some (.d (po p)), some (.d (po q)), some (.d (.int ((max p.length q.length : Nat) : Int))), none, none]
  let P1 := p ++ List.replicate (max p.length q.length - p.length) 0
  let Q1 := q ++ List.replicate (max p.length q.length - q.length) 0
  have hit : i_sum_by_1 F0 = some (.ok ((P1.zip Q1).map fun z => .tup [fr z.1, fr z.2]), F0) := by
    simp only [i_sum_by_1, iZp, F0, M.bnd, M.ret, M.stk, sSeq, sRet, sRetN, sIf, sSet, sExpr, sNx, eVar, eC, eBin, eFn, endFn, argF, slotsOf, wr, wr1, outsF, aCons, aNil, eTup, datas, eCal, snaps, snap, handed, eIf, tOf, tNo, tBoth, tAny, eBoth, eAny, eNo, eNeg, eChain, eLst, lDisp, runD, startF, slotOf, Tg.put, Tg.puts, e1, sPar2, eSl, eBits, eVar, oSome, oNone, List.map_cons, List.map_nil, List.length_cons, List.length_nil, List.replicate, List.cons_append, List.nil_append, List.append_nil, List.getElem?_cons_zero, List.getElem?_cons_succ, List.set_cons_zero, List.set_cons_succ, Option.map_some, Option.bind_some, lim0, lim1, lim2, lim3, lim4, lim5, lim6, lim7, lim8, lim9, lim10, lim11, Nat.reduceAdd, Nat.reduceSub, Nat.reduceLT, Nat.reduceEqDiff, if_true, if_false, eq_self, decide_true, decide_false, Bool.false_eq_true, Bool.not_true, Bool.not_false, and_self, and_true, true_and, Nat.zero_lt_succ, Nat.lt_add_one, List.nodup_nil, List.nodup_cons, List.not_mem_nil, not_false_eq_true, e2, e3, zip_po, M.of, P1, Q1]
  have hcmp := comp_pure (T := .tp [.nm 3, .nm 4]) (fe := x_sum_by_1) (F := fun z => fr (z.1 + z.2)) (fun z => [some (.d (po p)), some (.d (po q)), some (.d (.int ((max p.length q.length : Nat) : Int))), some (.d (fr z.1)), some (.d (fr z.2))]) hit rfl rfl (fun _ => rfl) (fun _ => rfl) (fun _ => rfl) rfl (fun z hz => by
    have z1 := spad p _ hp z.1 (List.of_mem_zip hz).1
    have z2 := spad q _ hq z.2 (List.of_mem_zip hz).2
    simp only [x_sum_by_1, M.bnd, M.ret, M.stk, sSeq, sRet, sRetN, sIf, sSet, sExpr, sNx, eVar, eC, eBin, eFn, endFn, argF, slotsOf, wr, wr1, outsF, aCons, aNil, eTup, datas, eCal, snaps, snap, handed, eIf, tOf, tNo, tBoth, tAny, eBoth, eAny, eNo, eNeg, eChain, eLst, lDisp, runD, startF, slotOf, Tg.put, Tg.puts, e1, sPar2, eSl, eBits, eVar, oSome, oNone, List.map_cons, List.map_nil, List.length_cons, List.length_nil, List.replicate, List.cons_append, List.nil_append, List.append_nil, List.getElem?_cons_zero, List.getElem?_cons_succ, List.set_cons_zero, List.set_cons_succ, Option.map_some, Option.bind_some, lim0, lim1, lim2, lim3, lim4, lim5, lim6, lim7, lim8, lim9, lim10, lim11, Nat.reduceAdd, Nat.reduceSub, Nat.reduceLT, Nat.reduceEqDiff, if_true, if_false, eq_self, decide_true, decide_false, Bool.false_eq_true, Bool.not_true, Bool.not_false, and_self, and_true, true_and, Nat.zero_lt_succ, Nat.lt_add_one, List.nodup_nil, List.nodup_cons, List.not_mem_nil, not_false_eq_true, t_plus z1 z2]) (by simp [P1, Q1]; omega)
  have e4 : (P1.zip Q1).map (fun z => fr (z.1 + z.2)) = (addL p q).map fr := by
    have hl : P1.length = Q1.length := by simp [P1, Q1]; omega
    have := zip_pad (fun a b => a + b) P1 Q1 hl
    rw [show (fun z : Rat × Rat => fr (z.1 + z.2)) = fr ∘ (fun z => z.1 + z.2) from rfl, ← List.map_map, this, addL]
    congr 1
    have hl2 : P1.length = max p.length q.length := by simp [P1]; omega
    rw [hl2]
    apply List.map_congr_left
    intro i _
    have g : ∀ (r : List Rat) (n : Nat), (r ++ List.replicate n 0).getD i 0 = r.getD i 0 := fun r n => by
      simp only [List.getD_eq_getElem?_getD]
      by_cases hi : i < r.length
      · rw [List.getElem?_append_left hi]
      · rw [List.getElem?_append_right (by omega), List.getElem?_replicate, List.getElem?_eq_none (by omega)]
        split <;> rfl
    rw [g, g]
  have e5 := t_lessened (p := addL p q) (by simp [addL]; omega)
  unfold pl at e5
  rw [e4] at hcmp
  simp only [F0] at hcmp
  simp only [m_sum_by, g_sum_by, ↓hcmp, hcmp, M.bnd, M.ret, M.stk, sSeq, sRet, sRetN, sIf, sSet, sExpr, sNx, eVar, eC, eBin, eFn, endFn, argF, slotsOf, wr, wr1, outsF, aCons, aNil, eTup, datas, eCal, snaps, snap, handed, eIf, tOf, tNo, tBoth, tAny, eBoth, eAny, eNo, eNeg, eChain, eLst, lDisp, runD, startF, slotOf, Tg.put, Tg.puts, e1, sPar2, eSl, eBits, eVar, oSome, oNone, List.map_cons, List.map_nil, List.length_cons, List.length_nil, List.replicate, List.cons_append, List.nil_append, List.append_nil, List.getElem?_cons_zero, List.getElem?_cons_succ, List.set_cons_zero, List.set_cons_succ, Option.map_some, Option.bind_some, lim0, lim1, lim2, lim3, lim4, lim5, lim6, lim7, lim8, lim9, lim10, lim11, Nat.reduceAdd, Nat.reduceSub, Nat.reduceLT, Nat.reduceEqDiff, if_true, if_false, eq_self, decide_true, decide_false, Bool.false_eq_true, Bool.not_true, Bool.not_false, and_self, and_true, true_and, Nat.zero_lt_succ, Nat.lt_add_one, List.nodup_nil, List.nodup_cons, List.not_mem_nil, not_false_eq_true, e0, e1, e5]
end L50
set_option maxRecDepth 100000
set_option maxHeartbeats 1000000
namespace L50
open PySem DL
/-! ### rises -/
def nr (i : Nat) : Rat := ((i : Int) : Rat)
theorem t_whole_nr (i : Nat) : m_whole [.d (.int (i : Nat))] = some (.ok (fr (nr i)), []) := rfl
theorem enumD_map : ∀ (p : List Rat) (k : Nat), enumD k (p.map fr) = (p.zipIdx k).map fun z => .tup [.int (z.2 : Nat), fr z.1]
  | [], k => rfl
  | a :: p, k => by simp only [List.map_cons, enumD, enumD_map p (k + 1), List.zipIdx_cons]
theorem sm_nr {i : Nat} (h : i ≤ 1000) : Sm (nr i) := ⟨by
  show (i : Int).natAbs < 2 ^ 1000
  rw [Int.natAbs_natCast]
  exact Nat.lt_of_le_of_lt h (by decide), by
  show 1 < 2 ^ 1000
  decide⟩
def riseL (p : List Rat) : List Rat := (List.range (p.length - 1)).map fun i => nr (i + 1) * p.getD (i + 1) 0
theorem sl_one {d : List DV} : gSl (.lst d) (some 1) none = some (.lst (d.drop 1)) := by
  show some (DV.lst (cutD d (some 1) none)) = _
  unfold cutD
  have h1 : HT.sIx d.length 0 (some 1) = min 1 d.length := HT.sIx_nat d.length 0 1
  rw [h1, HT.sIx_none]
  congr 2
  cases d with
  | nil => rfl
  | cons a d =>
    rw [show min 1 (a :: d).length = 1 by rw [List.length_cons]; omega]
    simp
theorem rise_map (p : List Rat) : ((p.zipIdx 0).map (fun z => fr (nr z.2 * z.1))).drop 1 = (riseL p).map fr := by
  apply List.ext_getElem
  · simp [riseL]
  · intro i h1 h2
    simp [riseL] at h1 h2
    have h3 : i + 1 < p.length := by omega
    simp [riseL, h3, Nat.add_comm 1 i]
theorem t_rise_of {p : List Rat} (h : p.length ≤ 100) (hp : Sms p) : m_rise_of [.d (po p)] = some (.ok (po (trim (riseL p))), []) := by
  let F0 : Frm := [some (.d (po p)), none, none]
  have hit : i_rise_of_1 F0 = some (.ok ((p.zipIdx 0).map fun z => .tup [.int (z.2 : Nat), fr z.1]), F0) := by
    simp only [i_rise_of_1, iEn, F0, M.bnd, M.ret, M.stk, sSeq, sRet, sRetN, sIf, sSet, sExpr, sNx, eVar, eC, eBin, eFn, endFn, argF, slotsOf, wr, wr1, outsF, aCons, aNil, eTup, datas, eCal, snaps, snap, handed, eIf, tOf, tNo, tBoth, tAny, eBoth, eAny, eNo, eNeg, eChain, eLst, lDisp, runD, startF, slotOf, Tg.put, Tg.puts, e1, sPar2, eSl, eBits, eVar, oSome, oNone, List.map_cons, List.map_nil, List.length_cons, List.length_nil, List.replicate, List.cons_append, List.nil_append, List.append_nil, List.getElem?_cons_zero, List.getElem?_cons_succ, List.set_cons_zero, List.set_cons_succ, Option.map_some, Option.bind_some, lim0, lim1, lim2, lim3, lim4, lim5, lim6, lim7, lim8, lim9, lim10, lim11, Nat.reduceAdd, Nat.reduceSub, Nat.reduceLT, Nat.reduceEqDiff, if_true, if_false, eq_self, decide_true, decide_false, Bool.false_eq_true, Bool.not_true, Bool.not_false, and_self, and_true, true_and, Nat.zero_lt_succ, Nat.lt_add_one, List.nodup_nil, List.nodup_cons, List.not_mem_nil, not_false_eq_true, po, seqOf, M.of, enumD_map]
  have hcmp := comp_pure (T := .tp [.nm 1, .nm 2]) (fe := x_rise_of_1) (F := fun z => fr (nr z.2 * z.1)) (fun z => [some (.d (po p)), some (.d (.int (z.2 : Nat))), some (.d (fr z.1))]) hit rfl rfl (fun _ => rfl) (fun _ => rfl) (fun _ => rfl) rfl (fun z hz => by
    have z1 : Sm z.1 := hp z.1 (by have := List.mem_zipIdx' hz; obtain ⟨q1, q2⟩ := this; rw [q2]; exact List.getElem_mem _)
    have z2 : Sm (nr z.2) := sm_nr (by have := (List.mem_zipIdx' hz).1; omega)
    simp only [x_rise_of_1, M.bnd, M.ret, M.stk, sSeq, sRet, sRetN, sIf, sSet, sExpr, sNx, eVar, eC, eBin, eFn, endFn, argF, slotsOf, wr, wr1, outsF, aCons, aNil, eTup, datas, eCal, snaps, snap, handed, eIf, tOf, tNo, tBoth, tAny, eBoth, eAny, eNo, eNeg, eChain, eLst, lDisp, runD, startF, slotOf, Tg.put, Tg.puts, e1, sPar2, eSl, eBits, eVar, oSome, oNone, List.map_cons, List.map_nil, List.length_cons, List.length_nil, List.replicate, List.cons_append, List.nil_append, List.append_nil, List.getElem?_cons_zero, List.getElem?_cons_succ, List.set_cons_zero, List.set_cons_succ, Option.map_some, Option.bind_some, lim0, lim1, lim2, lim3, lim4, lim5, lim6, lim7, lim8, lim9, lim10, lim11, Nat.reduceAdd, Nat.reduceSub, Nat.reduceLT, Nat.reduceEqDiff, if_true, if_false, eq_self, decide_true, decide_false, Bool.false_eq_true, Bool.not_true, Bool.not_false, and_self, and_true, true_and, Nat.zero_lt_succ, Nat.lt_add_one, List.nodup_nil, List.nodup_cons, List.not_mem_nil, not_false_eq_true, t_whole_nr, t_times z2 z1]) (by simpa using h)
  have e5 := t_lessened (p := riseL p) (by simp [riseL]; omega)
  unfold pl at e5
  simp only [F0] at hcmp
  simp only [m_rise_of, g_rise_of, ↓hcmp, hcmp, M.bnd, M.ret, M.stk, sSeq, sRet, sRetN, sIf, sSet, sExpr, sNx, eVar, eC, eBin, eFn, endFn, argF, slotsOf, wr, wr1, outsF, aCons, aNil, eTup, datas, eCal, snaps, snap, handed, eIf, tOf, tNo, tBoth, tAny, eBoth, eAny, eNo, eNeg, eChain, eLst, lDisp, runD, startF, slotOf, Tg.put, Tg.puts, e1, sPar2, eSl, eBits, eVar, oSome, oNone, List.map_cons, List.map_nil, List.length_cons, List.length_nil, List.replicate, List.cons_append, List.nil_append, List.append_nil, List.getElem?_cons_zero, List.getElem?_cons_succ, List.set_cons_zero, List.set_cons_succ, Option.map_some, Option.bind_some, lim0, lim1, lim2, lim3, lim4, lim5, lim6, lim7, lim8, lim9, lim10, lim11, Nat.reduceAdd, Nat.reduceSub, Nat.reduceLT, Nat.reduceEqDiff, if_true, if_false, eq_self, decide_true, decide_false, Bool.false_eq_true, Bool.not_true, Bool.not_false, and_self, and_true, true_and, Nat.zero_lt_succ, Nat.lt_add_one, List.nodup_nil, List.nodup_cons, List.not_mem_nil, not_false_eq_true, sl_one, rise_map, e5]
/-! ### FRACTIONs told -/
theorem is_tup {ds : List DV} {a b : Int} : m_is_tuple_of [.d (.tup ds), .d (.int a), .d (.int b)] = some (.ok (.bl (decide (a ≤ (ds.length : Nat)) && decide (((ds.length : Nat) : Int) ≤ b))), []) := by
  have e1 : fIsi [.tup ds, .ty "tuple"] = some (.bl true) := rfl
  have e2 : fLen [.tup ds] = some (.int (ds.length : Nat)) := rfl
  have e3 : ∀ i j : Int, gLe (.int i) (.int j) = some (.bl (decide (i ≤ j))) := fun _ _ => rfl
  simp only [m_is_tuple_of, g_is_tuple_of, M.bnd, M.ret, M.stk, sSeq, sRet, sRetN, sIf, sSet, sExpr, sNx, eVar, eC, eBin, eFn, endFn, argF, slotsOf, wr, wr1, outsF, aCons, aNil, eTup, datas, eCal, snaps, snap, handed, eIf, tOf, tNo, tBoth, tAny, eBoth, eAny, eNo, eNeg, eChain, eLst, lDisp, runD, startF, slotOf, Tg.put, Tg.puts, e1, sPar2, eSl, eBits, eVar, oSome, oNone, List.map_cons, List.map_nil, List.length_cons, List.length_nil, List.replicate, List.cons_append, List.nil_append, List.append_nil, List.getElem?_cons_zero, List.getElem?_cons_succ, List.set_cons_zero, List.set_cons_succ, Option.map_some, Option.bind_some, lim0, lim1, lim2, lim3, lim4, lim5, lim6, lim7, lim8, lim9, lim10, lim11, Nat.reduceAdd, Nat.reduceSub, Nat.reduceLT, Nat.reduceEqDiff, if_true, if_false, eq_self, decide_true, decide_false, Bool.false_eq_true, Bool.not_true, Bool.not_false, and_self, and_true, true_and, Nat.zero_lt_succ, Nat.lt_add_one, List.nodup_nil, List.nodup_cons, List.not_mem_nil, not_false_eq_true, e1, e2, e3]
  by_cases h : a ≤ (ds.length : Nat)
  · simp only [h, decide_true, Bool.true_and, M.bnd, M.ret, M.stk, sSeq, sRet, sRetN, sIf, sSet, sExpr, sNx, eVar, eC, eBin, eFn, endFn, argF, slotsOf, wr, wr1, outsF, aCons, aNil, eTup, datas, eCal, snaps, snap, handed, eIf, tOf, tNo, tBoth, tAny, eBoth, eAny, eNo, eNeg, eChain, eLst, lDisp, runD, startF, slotOf, Tg.put, Tg.puts, e1, sPar2, eSl, eBits, eVar, oSome, oNone, List.map_cons, List.map_nil, List.length_cons, List.length_nil, List.replicate, List.cons_append, List.nil_append, List.append_nil, List.getElem?_cons_zero, List.getElem?_cons_succ, List.set_cons_zero, List.set_cons_succ, Option.map_some, Option.bind_some, lim0, lim1, lim2, lim3, lim4, lim5, lim6, lim7, lim8, lim9, lim10, lim11, Nat.reduceAdd, Nat.reduceSub, Nat.reduceLT, Nat.reduceEqDiff, if_true, if_false, eq_self, decide_true, decide_false, Bool.false_eq_true, Bool.not_true, Bool.not_false, and_self, and_true, true_and, Nat.zero_lt_succ, Nat.lt_add_one, List.nodup_nil, List.nodup_cons, List.not_mem_nil, not_false_eq_true, e2, e3]
  · simp only [h, decide_false, Bool.false_and, M.bnd, M.ret, M.stk, sSeq, sRet, sRetN, sIf, sSet, sExpr, sNx, eVar, eC, eBin, eFn, endFn, argF, slotsOf, wr, wr1, outsF, aCons, aNil, eTup, datas, eCal, snaps, snap, handed, eIf, tOf, tNo, tBoth, tAny, eBoth, eAny, eNo, eNeg, eChain, eLst, lDisp, runD, startF, slotOf, Tg.put, Tg.puts, e1, sPar2, eSl, eBits, eVar, oSome, oNone, List.map_cons, List.map_nil, List.length_cons, List.length_nil, List.replicate, List.cons_append, List.nil_append, List.append_nil, List.getElem?_cons_zero, List.getElem?_cons_succ, List.set_cons_zero, List.set_cons_succ, Option.map_some, Option.bind_some, lim0, lim1, lim2, lim3, lim4, lim5, lim6, lim7, lim8, lim9, lim10, lim11, Nat.reduceAdd, Nat.reduceSub, Nat.reduceLT, Nat.reduceEqDiff, if_true, if_false, eq_self, decide_true, decide_false, Bool.false_eq_true, Bool.not_true, Bool.not_false, and_self, and_true, true_and, Nat.zero_lt_succ, Nat.lt_add_one, List.nodup_nil, List.nodup_cons, List.not_mem_nil, not_false_eq_true]
/-- both tell alike of a value whether it is a FRACTION -/
def FrB (d : DV) (b : Bool) : Prop := m_is_fraction [.d d] = some (.ok (.bl b), []) ∧ m__law_is_fraction [.d d] = some (.ok (.bl b), [])
theorem frB_fr {q : Rat} (h : Sm q) : FrB (fr q) true := by
  constructor
  · have w : ∀ i : Int, m_is_whole [.d (.int i)] = some (.ok (.bl true), []) := fun _ => rfl
    have e1 : m_is_tuple_of [.d (fr q), .d (.int 2), .d (.int 2)] = some (.ok (.bl true), []) := rfl
    have z : ((q.den : Int) > 0) := by have := q.den_nz; omega
    have g : ((((Nat.gcd q.num.natAbs (q.den : Int).natAbs : Nat) : Int)) == 1) = true := by
      rw [Int.natAbs_natCast, q.reduced]; rfl
    simp only [m_is_fraction, g_is_fraction, M.bnd, M.ret, M.stk, sSeq, sRet, sRetN, sIf, sSet, sExpr, sNx, eVar, eC, eBin, eFn, endFn, argF, slotsOf, wr, wr1, outsF, aCons, aNil, eTup, datas, eCal, snaps, snap, handed, eIf, tOf, tNo, tBoth, tAny, eBoth, eAny, eNo, eNeg, eChain, eLst, lDisp, runD, startF, slotOf, Tg.put, Tg.puts, e1, sPar2, eSl, eBits, eVar, oSome, oNone, List.map_cons, List.map_nil, List.length_cons, List.length_nil, List.replicate, List.cons_append, List.nil_append, List.append_nil, List.getElem?_cons_zero, List.getElem?_cons_succ, List.set_cons_zero, List.set_cons_succ, Option.map_some, Option.bind_some, lim0, lim1, lim2, lim3, lim4, lim5, lim6, lim7, lim8, lim9, lim10, lim11, Nat.reduceAdd, Nat.reduceSub, Nat.reduceLT, Nat.reduceEqDiff, if_true, if_false, eq_self, decide_true, decide_false, Bool.false_eq_true, Bool.not_true, Bool.not_false, and_self, and_true, true_and, Nat.zero_lt_succ, Nat.lt_add_one, List.nodup_nil, List.nodup_cons, List.not_mem_nil, not_false_eq_true, e1]
    simp only [fr, ix0, ix1, M.bnd, M.ret, M.stk, sSeq, sRet, sRetN, sIf, sSet, sExpr, sNx, eVar, eC, eBin, eFn, endFn, argF, slotsOf, wr, wr1, outsF, aCons, aNil, eTup, datas, eCal, snaps, snap, handed, eIf, tOf, tNo, tBoth, tAny, eBoth, eAny, eNo, eNeg, eChain, eLst, lDisp, runD, startF, slotOf, Tg.put, Tg.puts, e1, sPar2, eSl, eBits, eVar, oSome, oNone, List.map_cons, List.map_nil, List.length_cons, List.length_nil, List.replicate, List.cons_append, List.nil_append, List.append_nil, List.getElem?_cons_zero, List.getElem?_cons_succ, List.set_cons_zero, List.set_cons_succ, Option.map_some, Option.bind_some, lim0, lim1, lim2, lim3, lim4, lim5, lim6, lim7, lim8, lim9, lim10, lim11, Nat.reduceAdd, Nat.reduceSub, Nat.reduceLT, Nat.reduceEqDiff, if_true, if_false, eq_self, decide_true, decide_false, Bool.false_eq_true, Bool.not_true, Bool.not_false, and_self, and_true, true_and, Nat.zero_lt_succ, Nat.lt_add_one, List.nodup_nil, List.nodup_cons, List.not_mem_nil, not_false_eq_true, w, gt_ok, gcd_ok, eq_ok, decide_eq_true z, g]
  · have z : ((q.den : Int) > 0) := by have := q.den_nz; omega
    have hm := t_measure (t := q.num) (u := (q.den : Int)) (Nat.lt_of_lt_of_le h.1 (Nat.pow_le_pow_right (by decide) (by decide))) (by rw [Int.natAbs_natCast]; exact Nat.lt_of_lt_of_le h.2 (Nat.pow_le_pow_right (by decide) (by decide)))
    rw [Int.natAbs_natCast, q.reduced] at hm
    have e0 : fIsi [fr q, .ty "tuple"] = some (.bl true) := rfl
    have e1 : fLen [fr q] = some (.int 2) := rfl
    have e2 : gNe (.int 2) (.int 2) = some (.bl false) := rfl
    have e3 : lComp (.nm 1) i__law_is_fraction_1 q__law_is_fraction_1 x__law_is_fraction_1 [some (.d (fr q)), none] = some (.ok [], [some (.d (fr q)), none]) := rfl
    have e4 : gNe (.lst []) (.lst []) = some (.bl false) := rfl
    have e5 : gEq (.int ((1 : Nat) : Int)) (.int 1) = some (.bl true) := rfl
    simp only [m__law_is_fraction, g__law_is_fraction, M.bnd, M.ret, M.stk, sSeq, sRet, sRetN, sIf, sSet, sExpr, sNx, eVar, eC, eBin, eFn, endFn, argF, slotsOf, wr, wr1, outsF, aCons, aNil, eTup, datas, eCal, snaps, snap, handed, eIf, tOf, tNo, tBoth, tAny, eBoth, eAny, eNo, eNeg, eChain, eLst, lDisp, runD, startF, slotOf, Tg.put, Tg.puts, e1, sPar2, eSl, eBits, eVar, oSome, oNone, List.map_cons, List.map_nil, List.length_cons, List.length_nil, List.replicate, List.cons_append, List.nil_append, List.append_nil, List.getElem?_cons_zero, List.getElem?_cons_succ, List.set_cons_zero, List.set_cons_succ, Option.map_some, Option.bind_some, lim0, lim1, lim2, lim3, lim4, lim5, lim6, lim7, lim8, lim9, lim10, lim11, Nat.reduceAdd, Nat.reduceSub, Nat.reduceLT, Nat.reduceEqDiff, if_true, if_false, eq_self, decide_true, decide_false, Bool.false_eq_true, Bool.not_true, Bool.not_false, and_self, and_true, true_and, Nat.zero_lt_succ, Nat.lt_add_one, List.nodup_nil, List.nodup_cons, List.not_mem_nil, not_false_eq_true, e0, e1, e2, ↓e3, e3, e4]
    simp only [fr, ix0, ix1, M.bnd, M.ret, M.stk, sSeq, sRet, sRetN, sIf, sSet, sExpr, sNx, eVar, eC, eBin, eFn, endFn, argF, slotsOf, wr, wr1, outsF, aCons, aNil, eTup, datas, eCal, snaps, snap, handed, eIf, tOf, tNo, tBoth, tAny, eBoth, eAny, eNo, eNeg, eChain, eLst, lDisp, runD, startF, slotOf, Tg.put, Tg.puts, e1, sPar2, eSl, eBits, eVar, oSome, oNone, List.map_cons, List.map_nil, List.length_cons, List.length_nil, List.replicate, List.cons_append, List.nil_append, List.append_nil, List.getElem?_cons_zero, List.getElem?_cons_succ, List.set_cons_zero, List.set_cons_succ, Option.map_some, Option.bind_some, lim0, lim1, lim2, lim3, lim4, lim5, lim6, lim7, lim8, lim9, lim10, lim11, Nat.reduceAdd, Nat.reduceSub, Nat.reduceLT, Nat.reduceEqDiff, if_true, if_false, eq_self, decide_true, decide_false, Bool.false_eq_true, Bool.not_true, Bool.not_false, and_self, and_true, true_and, Nat.zero_lt_succ, Nat.lt_add_one, List.nodup_nil, List.nodup_cons, List.not_mem_nil, not_false_eq_true, hm, gt_ok, decide_eq_true z, e5]
/-- the values of truths -/
theorem blsOf_map : ∀ bs : List Bool, blsOf (bs.map DV.bl) = some bs
  | [] => rfl
  | b :: bs => by simp only [List.map_cons, blsOf, blsOf_map bs, Option.map_some]
theorem t_are {ds : List DV} {f : DV → Bool} {a b : Nat} (h : ds.length ≤ 100) (hd : ∀ d ∈ ds, FrB d (f d)) : m_are_fractions [.d (.tup ds), .d (.int (a : Nat)), .d (.int (b : Nat))] = some (.ok (.bl (decide (a ≤ ds.length ∧ ds.length ≤ b) && ds.all f)), []) := by
  have e0 := is_tup (ds := ds) (a := (a : Nat)) (b := (b : Nat))
  have hcmp := comp_pure (T := .nm 3) (fi := i_are_fractions_1) (fe := x_are_fractions_1) (fr := [some (.d (.tup ds)), some (.d (.int (a : Nat))), some (.d (.int (b : Nat))), none]) (enc := id) (F := fun d => .bl (f d)) (fun d => [some (.d (.tup ds)), some (.d (.int (a : Nat))), some (.d (.int (b : Nat))), some (.d d)]) (l := ds) (by rw [List.map_id]; rfl) rfl rfl (fun _ => rfl) (fun _ => rfl) (fun _ => rfl) rfl (fun d hd' => by
    simp only [x_are_fractions_1, M.bnd, M.ret, M.stk, sSeq, sRet, sRetN, sIf, sSet, sExpr, sNx, eVar, eC, eBin, eFn, endFn, argF, slotsOf, wr, wr1, outsF, aCons, aNil, eTup, datas, eCal, snaps, snap, handed, eIf, tOf, tNo, tBoth, tAny, eBoth, eAny, eNo, eNeg, eChain, eLst, lDisp, runD, startF, slotOf, Tg.put, Tg.puts, e1, sPar2, eSl, eBits, eVar, oSome, oNone, List.map_cons, List.map_nil, List.length_cons, List.length_nil, List.replicate, List.cons_append, List.nil_append, List.append_nil, List.getElem?_cons_zero, List.getElem?_cons_succ, List.set_cons_zero, List.set_cons_succ, Option.map_some, Option.bind_some, lim0, lim1, lim2, lim3, lim4, lim5, lim6, lim7, lim8, lim9, lim10, lim11, Nat.reduceAdd, Nat.reduceSub, Nat.reduceLT, Nat.reduceEqDiff, if_true, if_false, eq_self, decide_true, decide_false, Bool.false_eq_true, Bool.not_true, Bool.not_false, and_self, and_true, true_and, Nat.zero_lt_succ, Nat.lt_add_one, List.nodup_nil, List.nodup_cons, List.not_mem_nil, not_false_eq_true, (hd d hd').1]) h
  have e2 : fAllL [.lst (ds.map fun d => .bl (f d))] = some (.bl (ds.all f)) := by
    show (blsOf (ds.map fun d => .bl (f d))).map _ = _
    rw [show (fun d => DV.bl (f d)) = DV.bl ∘ f from rfl, ← List.map_map, blsOf_map]
    simp [List.all_map]
    all_goals rfl
  simp only [m_are_fractions, g_are_fractions, M.bnd, M.ret, M.stk, sSeq, sRet, sRetN, sIf, sSet, sExpr, sNx, eVar, eC, eBin, eFn, endFn, argF, slotsOf, wr, wr1, outsF, aCons, aNil, eTup, datas, eCal, snaps, snap, handed, eIf, tOf, tNo, tBoth, tAny, eBoth, eAny, eNo, eNeg, eChain, eLst, lDisp, runD, startF, slotOf, Tg.put, Tg.puts, e1, sPar2, eSl, eBits, eVar, oSome, oNone, List.map_cons, List.map_nil, List.length_cons, List.length_nil, List.replicate, List.cons_append, List.nil_append, List.append_nil, List.getElem?_cons_zero, List.getElem?_cons_succ, List.set_cons_zero, List.set_cons_succ, Option.map_some, Option.bind_some, lim0, lim1, lim2, lim3, lim4, lim5, lim6, lim7, lim8, lim9, lim10, lim11, Nat.reduceAdd, Nat.reduceSub, Nat.reduceLT, Nat.reduceEqDiff, if_true, if_false, eq_self, decide_true, decide_false, Bool.false_eq_true, Bool.not_true, Bool.not_false, and_self, and_true, true_and, Nat.zero_lt_succ, Nat.lt_add_one, List.nodup_nil, List.nodup_cons, List.not_mem_nil, not_false_eq_true, e0]
  by_cases c : a ≤ ds.length ∧ ds.length ≤ b
  · have c1 : (a : Int) ≤ (ds.length : Nat) := by omega
    have c2 : ((ds.length : Nat) : Int) ≤ b := by omega
    simp only [c1, c2, c, decide_true, Bool.true_and, ↓hcmp, hcmp, M.bnd, M.ret, M.stk, sSeq, sRet, sRetN, sIf, sSet, sExpr, sNx, eVar, eC, eBin, eFn, endFn, argF, slotsOf, wr, wr1, outsF, aCons, aNil, eTup, datas, eCal, snaps, snap, handed, eIf, tOf, tNo, tBoth, tAny, eBoth, eAny, eNo, eNeg, eChain, eLst, lDisp, runD, startF, slotOf, Tg.put, Tg.puts, e1, sPar2, eSl, eBits, eVar, oSome, oNone, List.map_cons, List.map_nil, List.length_cons, List.length_nil, List.replicate, List.cons_append, List.nil_append, List.append_nil, List.getElem?_cons_zero, List.getElem?_cons_succ, List.set_cons_zero, List.set_cons_succ, Option.map_some, Option.bind_some, lim0, lim1, lim2, lim3, lim4, lim5, lim6, lim7, lim8, lim9, lim10, lim11, Nat.reduceAdd, Nat.reduceSub, Nat.reduceLT, Nat.reduceEqDiff, if_true, if_false, eq_self, decide_true, decide_false, Bool.false_eq_true, Bool.not_true, Bool.not_false, and_self, and_true, true_and, Nat.zero_lt_succ, Nat.lt_add_one, List.nodup_nil, List.nodup_cons, List.not_mem_nil, not_false_eq_true, e2]
  · have c1 : (decide ((a : Int) ≤ (ds.length : Nat)) && decide (((ds.length : Nat) : Int) ≤ b)) = false := by
      rw [Bool.and_eq_false_iff, decide_eq_false_iff_not, decide_eq_false_iff_not]
      omega
    simp only [c1, c, decide_false, Bool.false_and, M.bnd, M.ret, M.stk, sSeq, sRet, sRetN, sIf, sSet, sExpr, sNx, eVar, eC, eBin, eFn, endFn, argF, slotsOf, wr, wr1, outsF, aCons, aNil, eTup, datas, eCal, snaps, snap, handed, eIf, tOf, tNo, tBoth, tAny, eBoth, eAny, eNo, eNeg, eChain, eLst, lDisp, runD, startF, slotOf, Tg.put, Tg.puts, e1, sPar2, eSl, eBits, eVar, oSome, oNone, List.map_cons, List.map_nil, List.length_cons, List.length_nil, List.replicate, List.cons_append, List.nil_append, List.append_nil, List.getElem?_cons_zero, List.getElem?_cons_succ, List.set_cons_zero, List.set_cons_succ, Option.map_some, Option.bind_some, lim0, lim1, lim2, lim3, lim4, lim5, lim6, lim7, lim8, lim9, lim10, lim11, Nat.reduceAdd, Nat.reduceSub, Nat.reduceLT, Nat.reduceEqDiff, if_true, if_false, eq_self, decide_true, decide_false, Bool.false_eq_true, Bool.not_true, Bool.not_false, and_self, and_true, true_and, Nat.zero_lt_succ, Nat.lt_add_one, List.nodup_nil, List.nodup_cons, List.not_mem_nil, not_false_eq_true]
end L50
set_option maxRecDepth 100000
set_option maxHeartbeats 1000000
namespace L50
open PySem DL
/-! ### bounds -/
def Bd (D B : Nat) (q : Rat) : Prop := ∃ z : Int, q = mkRat z D ∧ z.natAbs ≤ B
theorem bd_add {D B1 B2 : Nat} {a b : Rat} (hD : 0 < D) (ha : Bd D B1 a) (hb : Bd D B2 b) : Bd D (B1 + B2) (a + b) := by
  obtain ⟨x, e1, h1⟩ := ha
  obtain ⟨y, e2, h2⟩ := hb
  refine ⟨x + y, ?_, Nat.le_trans (Int.natAbs_add_le ..) (Nat.add_le_add h1 h2)⟩
  rw [e1, e2, Rat.mkRat_add_mkRat _ _ (by omega) (by omega), ← Int.add_mul, Rat.mkRat_mul_right (by omega)]
theorem bd_mul {D1 D2 B1 B2 : Nat} {a b : Rat} (ha : Bd D1 B1 a) (hb : Bd D2 B2 b) : Bd (D1 * D2) (B1 * B2) (a * b) := by
  obtain ⟨x, e1, h1⟩ := ha
  obtain ⟨y, e2, h2⟩ := hb
  refine ⟨x * y, by rw [e1, e2, Rat.mkRat_mul_mkRat], ?_⟩
  rw [Int.natAbs_mul]
  exact Nat.mul_le_mul h1 h2
theorem bd_zero {D : Nat} (B : Nat) : Bd D B 0 := ⟨0, by rw [Rat.zero_mkRat], Nat.zero_le _⟩
theorem bd_mono {D B B' : Nat} {a : Rat} (h : B ≤ B') (ha : Bd D B a) : Bd D B' a := by
  obtain ⟨x, e1, h1⟩ := ha
  exact ⟨x, e1, Nat.le_trans h1 h⟩
theorem bd_up {D B : Nat} {a : Rat} (k : Nat) (hk : 0 < k) (ha : Bd D B a) : Bd (D * k) (B * k) a := by
  obtain ⟨x, e1, h1⟩ := ha
  refine ⟨x * k, by rw [e1, Rat.mkRat_mul_right (by omega)], ?_⟩
  rw [Int.natAbs_mul, Int.natAbs_natCast]
  exact Nat.mul_le_mul_right _ h1
theorem bd_sm {D B : Nat} {a : Rat} (hD : 0 < D) (h1 : D < 2 ^ 1000) (h2 : B < 2 ^ 1000) (ha : Bd D B a) : Sm a := by
  obtain ⟨x, e1, h3⟩ := ha
  subst e1
  constructor
  · rw [mk_num hD]
    exact Nat.lt_of_le_of_lt (Nat.le_trans (Int.natAbs_ediv_le_natAbs ..) h3) h2
  · rw [Rat.den_mkRat, if_neg (by omega)]
    exact Nat.lt_of_le_of_lt (Nat.div_le_self ..) h1
def Bp (D B : Nat) (p : List Rat) : Prop := ∀ q ∈ p, Bd D B q
theorem Bp.sms {D B : Nat} {p : List Rat} (hD : 0 < D) (h1 : D < 2 ^ 1000) (h2 : B < 2 ^ 1000) (h : Bp D B p) : Sms p := fun q hq => bd_sm hD h1 h2 (h q hq)
theorem Bp.mono {D B B' : Nat} {p : List Rat} (h : B ≤ B') (hp : Bp D B p) : Bp D B' p := fun q hq => bd_mono h (hp q hq)
theorem trim_sub : ∀ (p : List Rat) (q : Rat), q ∈ trim p → q ∈ p
  | [], q, h => h
  | a :: l, q, h => by
    simp only [trim] at h
    cases e : trim l with
    | nil =>
      rw [e] at h
      by_cases z : a = 0
      · simp [z] at h
      · simp [z] at h; simp [h]
    | cons b t =>
      rw [e] at h
      rcases List.mem_cons.mp h with h | h
      · simp [h]
      · exact List.mem_cons_of_mem _ (trim_sub l q (by rw [e]; exact h))
theorem Bp.trim {D B : Nat} {p : List Rat} (h : Bp D B p) : Bp D B (trim p) := fun q hq => h q (trim_sub p q hq)
theorem trim_len : ∀ p : List Rat, (trim p).length ≤ p.length
  | [] => Nat.le_refl _
  | a :: l => by
    have := trim_len l
    simp only [L50.trim]
    cases e : L50.trim l with
    | nil => by_cases z : a = 0 <;> simp [z]
    | cons b t => rw [e] at this; simp at this ⊢; omega
theorem getD_bd {D B : Nat} {p : List Rat} (h : Bp D B p) (i : Nat) : Bd D B (p.getD i 0) := by
  rw [List.getD_eq_getElem?_getD]
  cases e : p[i]? with
  | none => exact bd_zero B
  | some a => exact h a (List.mem_of_getElem? e)
/-! ### polynomials as their numbers -/
abbrev cf (p : List Rat) (i : Nat) : Rat := p.getD i 0
theorem cf_nil (i : Nat) : cf [] i = 0 := by simp [cf]
theorem cf_trim : ∀ (p : List Rat) (i : Nat), cf (trim p) i = cf p i
  | [], i => rfl
  | a :: l, i => by
    have ih := cf_trim l
    simp only [trim]
    cases e : trim l with
    | nil =>
      rw [e] at ih
      by_cases z : a = 0
      · subst z
        cases i with
        | zero => simp [cf]
        | succ i => have := ih i; simp [cf] at this ⊢; exact this
      · cases i with
        | zero => simp [cf, z]
        | succ i => have := ih i; simp [cf, z] at this ⊢; exact this
    | cons b t =>
      rw [e] at ih
      cases i with
      | zero => simp [cf]
      | succ i => have := ih i; simpa [cf] using this
theorem trim_nil_of : ∀ (p : List Rat), (∀ i, cf p i = 0) → trim p = []
  | [], _ => rfl
  | a :: l, h => by
    have h0 : a = 0 := by simpa [cf] using h 0
    have := trim_nil_of l (fun i => by simpa [cf] using h (i + 1))
    simp [trim, this, h0]
/-- trimmed ones are told by their numbers -/
theorem trim_ext : ∀ (p q : List Rat), (∀ i, cf p i = cf q i) → trim p = trim q
  | [], q, h => by rw [trim_nil_of q (fun i => by rw [← h i]; exact cf_nil i)]; rfl
  | p, [], h => by rw [trim_nil_of p (fun i => by rw [h i]; exact cf_nil i)]; rfl
  | a :: p, b :: q, h => by
    have h0 : a = b := by simpa [cf] using h 0
    have := trim_ext p q (fun i => by simpa [cf] using h (i + 1))
    simp only [trim, this, h0]
theorem trim_trim (p : List Rat) : trim (trim p) = trim p := trim_ext _ _ fun i => cf_trim p i
theorem cf_addL (p q : List Rat) (i : Nat) : cf (addL p q) i = cf p i + cf q i := by
  unfold addL cf
  simp only [List.getD_eq_getElem?_getD, List.getElem?_map]
  by_cases h : i < max p.length q.length
  · rw [List.getElem?_range h]; simp
  · rw [List.getElem?_eq_none (by simpa using h), List.getElem?_eq_none (show p.length ≤ i by omega), List.getElem?_eq_none (show q.length ≤ i by omega)]
    simp [Rat.add_zero]
theorem cf_map (p : List Rat) (c : Rat) (i : Nat) : cf (p.map (c * ·)) i = c * cf p i := by
  unfold cf
  simp only [List.getD_eq_getElem?_getD, List.getElem?_map]
  cases p[i]? <;> simp
theorem cf_riseL (p : List Rat) (i : Nat) : cf (riseL p) i = nr (i + 1) * cf p (i + 1) := by
  unfold riseL cf
  simp only [List.getD_eq_getElem?_getD, List.getElem?_map]
  by_cases h : i < p.length - 1
  · rw [List.getElem?_range h]; simp
  · rw [List.getElem?_eq_none (by simpa using h), List.getElem?_eq_none (show p.length ≤ i + 1 by omega)]
    simp
def mulL (p q : List Rat) : List Rat := (p.zip q).map fun z => z.1 * z.2
theorem cf_mulL (p q : List Rat) (i : Nat) : cf (mulL p q) i = cf p i * cf q i := by
  unfold mulL cf
  simp only [List.getD_eq_getElem?_getD, List.getElem?_map]
  by_cases h1 : i < p.length
  · by_cases h2 : i < q.length
    · rw [List.getElem?_eq_getElem (by simp; omega), List.getElem?_eq_getElem h1, List.getElem?_eq_getElem h2]; simp
    · rw [List.getElem?_eq_none (by simp; omega), List.getElem?_eq_none (show q.length ≤ i by omega)]; simp
  · rw [List.getElem?_eq_none (by simp; omega), List.getElem?_eq_none (show p.length ≤ i by omega)]; simp
theorem bp_addL {D B1 B2 : Nat} {p q : List Rat} (hD : 0 < D) (hp : Bp D B1 p) (hq : Bp D B2 q) : Bp D (B1 + B2) (addL p q) := fun x hx => by
  unfold addL at hx
  obtain ⟨i, _, e⟩ := List.mem_map.mp hx
  subst e
  exact bd_add hD (getD_bd hp i) (getD_bd hq i)
theorem bp_map {D1 D2 B1 B2 : Nat} {p : List Rat} {c : Rat} (hc : Bd D1 B1 c) (hp : Bp D2 B2 p) : Bp (D1 * D2) (B1 * B2) (p.map (c * ·)) := fun x hx => by
  obtain ⟨y, hy, e⟩ := List.mem_map.mp hx
  subst e
  exact bd_mul hc (hp y hy)
theorem bd_nr (i : Nat) : Bd 1 i (nr i) := ⟨i, (Rat.mkRat_self (nr i)).symm, by rw [Int.natAbs_natCast]; exact Nat.le_refl _⟩
theorem bp_riseL {D B : Nat} {p : List Rat} (hp : Bp D B p) (hl : p.length ≤ 8) : Bp D (7 * B) (riseL p) := fun x hx => by
  unfold riseL at hx
  obtain ⟨i, hi, e⟩ := List.mem_map.mp hx
  subst e
  have hi' : i < p.length - 1 := by simpa using hi
  have := bd_mul (bd_nr (i + 1)) (getD_bd hp (i + 1))
  rw [Nat.one_mul] at this
  exact bd_mono (Nat.mul_le_mul_right _ (by omega)) this
theorem bp_mulL {D1 D2 B1 B2 : Nat} {p q : List Rat} (hp : Bp D1 B1 p) (hq : Bp D2 B2 q) : Bp (D1 * D2) (B1 * B2) (mulL p q) := fun x hx => by
  obtain ⟨z, hz, e⟩ := List.mem_map.mp hx
  subst e
  exact bd_mul (hp _ (List.of_mem_zip hz).1) (hq _ (List.of_mem_zip hz).2)
end L50
set_option maxRecDepth 100000
set_option maxHeartbeats 1000000
namespace L50
open PySem DL
/-! ### comparing -/
def pyQ (q : Rat) : PyData := .tuple [.int q.num, .int q.den]
theorem pys_po : ∀ p : List Rat, DV.pys (p.map fr) = some (p.map pyQ)
  | [] => rfl
  | a :: p => by simp only [List.map_cons, DV.pys, pys_po p]; rfl
theorem py_po (p : List Rat) : DV.py (po p) = some (.tuple (p.map pyQ)) := by simp only [po, DV.py, pys_po, Option.map_some]
theorem lay_all : ∀ p : List Rat, PyData.canLayAll0 (p.map pyQ) = true
  | [] => rfl
  | a :: p => by simp only [List.map_cons, PyData.canLayAll0, lay_all p]; rfl
theorem depth_all : ∀ p : List Rat, PyData.depthAll (p.map pyQ) ≤ 10
  | [] => by decide
  | a :: p => by
    have := depth_all p
    simp only [List.map_cons, PyData.depthAll]
    have h : PyData.depth (pyQ a) ≤ 10 := by
      show PyData.depth (.tuple [.int a.num, .int a.den]) ≤ 10
      simp [PyData.depth, PyData.depthAll]
    omega
theorem shaped_po (p : List Rat) : SeqAt.shaped (.tuple (p.map pyQ)) = true := by
  have h1 := depth_all p
  have h2 : PyData.depth (.tuple (p.map pyQ)) ≤ 64 := by
    rw [PyData.depth]
    omega
  show (PyData.canLayAll0 (p.map pyQ) && decide (PyData.depth (.tuple (p.map pyQ)) ≤ 64)) = true
  rw [lay_all, decide_eq_true h2]
  rfl
theorem eqv_q (a b : Rat) : PyData.eqv (pyQ a) (pyQ b) = decide (a = b) := by
  show ((a.num == b.num) && (((a.den : Int) == (b.den : Int)) && true)) = _
  by_cases h : a = b
  · subst h; simp
  · simp only [h, decide_false, Bool.and_true, Bool.and_eq_false_iff, beq_eq_false_iff_ne, ne_eq]
    by_cases hn : a.num = b.num
    · right
      intro hd
      exact h (Rat.ext hn (by omega))
    · exact .inl hn
theorem eqv_all : ∀ p q : List Rat, PyData.eqvAll (p.map pyQ) (q.map pyQ) = decide (p = q)
  | [], [] => rfl
  | [], _ :: _ => rfl
  | _ :: _, [] => rfl
  | a :: p, b :: q => by
    simp only [List.map_cons, PyData.eqvAll, eqv_q, eqv_all p q, List.cons.injEq]
    by_cases h1 : a = b <;> by_cases h2 : p = q <;> simp [h1, h2]
theorem eq_po {p q : List Rat} : gEq (po p) (po q) = some (.bl (decide (p = q))) := by
  unfold gEq eqB
  simp only [py_po, shaped_po, and_self, if_true, Option.map_some]
  rw [show PyData.eqv (.tuple (p.map pyQ)) (.tuple (q.map pyQ)) = PyData.eqvAll (p.map pyQ) (q.map pyQ) from rfl, eqv_all]
theorem ne_po {p q : List Rat} : gNe (po p) (po q) = some (.bl (!decide (p = q))) := by
  unfold gNe eqB
  simp only [py_po, shaped_po, and_self, if_true, Option.map_some]
  rw [show PyData.eqv (.tuple (p.map pyQ)) (.tuple (q.map pyQ)) = PyData.eqvAll (p.map pyQ) (q.map pyQ) from rfl, eqv_all]
theorem ne_fr {a b : Rat} : gNe (fr a) (fr b) = some (.bl (!decide (a = b))) := by
  have h1 : gNe (fr a) (fr b) = some (.bl (!((a.num == b.num) && (((a.den : Int) == (b.den : Int)) && true)))) := rfl
  rw [h1]
  congr 2
  have := eqv_q a b
  rw [← this]
  rfl
/-! ### checks -/
theorem ix_last {d : List DV} {x : DV} : gIx (.tup (d ++ [x])) (.int (-1)) = some x := by
  show L2.atI (d ++ [x]) (-1) = some x
  unfold L2.atI L2.ixN
  have hl : (d ++ [x]).length = d.length + 1 := by simp
  have : (-1 + (((d ++ [x]).length : Nat) : Int)).toNat = d.length := by omega
  rw [if_neg (by decide), if_pos (by omega), this]
  simp
theorem trim_last : ∀ p : List Rat, trim p = p → p ≠ [] → ∃ l a, p = l ++ [a] ∧ a ≠ 0 := fun p h hn => by
  rcases List.eq_nil_or_concat p with e | ⟨l, a, e⟩
  · exact absurd e hn
  · rw [List.concat_eq_append] at e
    subst e
    refine ⟨l, a, rfl, fun z => ?_⟩
    subst z
    rw [trim_snoc0] at h
    have := trim_len l
    rw [h] at this
    simp at this
    omega
/-- a POLY of few enough numbers -/
structure Pol (p : List Rat) (n : Nat) : Prop where
  tr : trim p = p
  sm : Sms p
  len : p.length ≤ n
theorem t_is_poly {p : List Rat} (h : Pol p 13) : m_is_poly_by [.d (po p)] = some (.ok (.bl true), []) := by
  have e0 : m_are_fractions [.d (po p), .d (.int 0), .d c_MOST_NUMBERS] = some (.ok (.bl true), []) := by
    have := t_are (ds := p.map fr) (f := fun _ => true) (a := 0) (b := 13) (by have := h.len; simp; omega) (fun d hd => by
      obtain ⟨q, hq, e⟩ := List.mem_map.mp hd
      subst e
      exact frB_fr (h.sm q hq))
    have l := h.len
    rw [show (decide (0 ≤ (p.map fr).length ∧ (p.map fr).length ≤ 13) && (p.map fr).all fun _ => true) = true by simp [l]] at this
    exact this
  have e1 : gEq (po p) (.tup []) = some (.bl (decide (p = []))) := eq_po (q := [])
  simp only [m_is_poly_by, g_is_poly_by, M.bnd, M.ret, M.stk, sSeq, sRet, sRetN, sIf, sSet, sExpr, sNx, eVar, eC, eBin, eFn, endFn, argF, slotsOf, wr, wr1, outsF, aCons, aNil, eTup, datas, eCal, snaps, snap, handed, eIf, tOf, tNo, tBoth, tAny, eBoth, eAny, eNo, eNeg, eChain, eLst, lDisp, runD, startF, slotOf, Tg.put, Tg.puts, e1, sPar2, eSl, eBits, eVar, oSome, oNone, List.map_cons, List.map_nil, List.length_cons, List.length_nil, List.replicate, List.cons_append, List.nil_append, List.append_nil, List.getElem?_cons_zero, List.getElem?_cons_succ, List.set_cons_zero, List.set_cons_succ, Option.map_some, Option.bind_some, lim0, lim1, lim2, lim3, lim4, lim5, lim6, lim7, lim8, lim9, lim10, lim11, Nat.reduceAdd, Nat.reduceSub, Nat.reduceLT, Nat.reduceEqDiff, if_true, if_false, eq_self, decide_true, decide_false, Bool.false_eq_true, Bool.not_true, Bool.not_false, and_self, and_true, true_and, Nat.zero_lt_succ, Nat.lt_add_one, List.nodup_nil, List.nodup_cons, List.not_mem_nil, not_false_eq_true, e0, e1]
  by_cases z : p = []
  · simp only [z, M.bnd, M.ret, M.stk, sSeq, sRet, sRetN, sIf, sSet, sExpr, sNx, eVar, eC, eBin, eFn, endFn, argF, slotsOf, wr, wr1, outsF, aCons, aNil, eTup, datas, eCal, snaps, snap, handed, eIf, tOf, tNo, tBoth, tAny, eBoth, eAny, eNo, eNeg, eChain, eLst, lDisp, runD, startF, slotOf, Tg.put, Tg.puts, e1, sPar2, eSl, eBits, eVar, oSome, oNone, List.map_cons, List.map_nil, List.length_cons, List.length_nil, List.replicate, List.cons_append, List.nil_append, List.append_nil, List.getElem?_cons_zero, List.getElem?_cons_succ, List.set_cons_zero, List.set_cons_succ, Option.map_some, Option.bind_some, lim0, lim1, lim2, lim3, lim4, lim5, lim6, lim7, lim8, lim9, lim10, lim11, Nat.reduceAdd, Nat.reduceSub, Nat.reduceLT, Nat.reduceEqDiff, if_true, if_false, eq_self, decide_true, decide_false, Bool.false_eq_true, Bool.not_true, Bool.not_false, and_self, and_true, true_and, Nat.zero_lt_succ, Nat.lt_add_one, List.nodup_nil, List.nodup_cons, List.not_mem_nil, not_false_eq_true]
  · obtain ⟨l, a, e, ha⟩ := trim_last p h.tr z
    have e2 : gIx (po p) (.int (-1)) = some (fr a) := by
      rw [e]
      unfold po
      rw [List.map_append]
      exact ix_last
    have e3 : gNe (fr a) c_NOUGHT = some (.bl true) := by
      rw [← fr0, ne_fr]; simp [ha]
    simp only [z, M.bnd, M.ret, M.stk, sSeq, sRet, sRetN, sIf, sSet, sExpr, sNx, eVar, eC, eBin, eFn, endFn, argF, slotsOf, wr, wr1, outsF, aCons, aNil, eTup, datas, eCal, snaps, snap, handed, eIf, tOf, tNo, tBoth, tAny, eBoth, eAny, eNo, eNeg, eChain, eLst, lDisp, runD, startF, slotOf, Tg.put, Tg.puts, e1, sPar2, eSl, eBits, eVar, oSome, oNone, List.map_cons, List.map_nil, List.length_cons, List.length_nil, List.replicate, List.cons_append, List.nil_append, List.append_nil, List.getElem?_cons_zero, List.getElem?_cons_succ, List.set_cons_zero, List.set_cons_succ, Option.map_some, Option.bind_some, lim0, lim1, lim2, lim3, lim4, lim5, lim6, lim7, lim8, lim9, lim10, lim11, Nat.reduceAdd, Nat.reduceSub, Nat.reduceLT, Nat.reduceEqDiff, if_true, if_false, eq_self, decide_true, decide_false, Bool.false_eq_true, Bool.not_true, Bool.not_false, and_self, and_true, true_and, Nat.zero_lt_succ, Nat.lt_add_one, List.nodup_nil, List.nodup_cons, List.not_mem_nil, not_false_eq_true, e2, e3]
theorem t_check_poly {p : List Rat} (h : Pol p 13) : m_check_poly [.d (po p)] = some (.ok .non, []) := by
  simp only [m_check_poly, g_check_poly, M.bnd, M.ret, M.stk, sSeq, sRet, sRetN, sIf, sSet, sExpr, sNx, eVar, eC, eBin, eFn, endFn, argF, slotsOf, wr, wr1, outsF, aCons, aNil, eTup, datas, eCal, snaps, snap, handed, eIf, tOf, tNo, tBoth, tAny, eBoth, eAny, eNo, eNeg, eChain, eLst, lDisp, runD, startF, slotOf, Tg.put, Tg.puts, e1, sPar2, eSl, eBits, eVar, oSome, oNone, List.map_cons, List.map_nil, List.length_cons, List.length_nil, List.replicate, List.cons_append, List.nil_append, List.append_nil, List.getElem?_cons_zero, List.getElem?_cons_succ, List.set_cons_zero, List.set_cons_succ, Option.map_some, Option.bind_some, lim0, lim1, lim2, lim3, lim4, lim5, lim6, lim7, lim8, lim9, lim10, lim11, Nat.reduceAdd, Nat.reduceSub, Nat.reduceLT, Nat.reduceEqDiff, if_true, if_false, eq_self, decide_true, decide_false, Bool.false_eq_true, Bool.not_true, Bool.not_false, and_self, and_true, true_and, Nat.zero_lt_succ, Nat.lt_add_one, List.nodup_nil, List.nodup_cons, List.not_mem_nil, not_false_eq_true, t_is_poly h]
theorem t_check_polys {p q : List Rat} (h : Pol p 13) (k : Pol q 13) : m_check_polys [.d (po p), .d (po q)] = some (.ok .non, []) := by
  simp only [m_check_polys, g_check_polys, M.bnd, M.ret, M.stk, sSeq, sRet, sRetN, sIf, sSet, sExpr, sNx, eVar, eC, eBin, eFn, endFn, argF, slotsOf, wr, wr1, outsF, aCons, aNil, eTup, datas, eCal, snaps, snap, handed, eIf, tOf, tNo, tBoth, tAny, eBoth, eAny, eNo, eNeg, eChain, eLst, lDisp, runD, startF, slotOf, Tg.put, Tg.puts, e1, sPar2, eSl, eBits, eVar, oSome, oNone, List.map_cons, List.map_nil, List.length_cons, List.length_nil, List.replicate, List.cons_append, List.nil_append, List.append_nil, List.getElem?_cons_zero, List.getElem?_cons_succ, List.set_cons_zero, List.set_cons_succ, Option.map_some, Option.bind_some, lim0, lim1, lim2, lim3, lim4, lim5, lim6, lim7, lim8, lim9, lim10, lim11, Nat.reduceAdd, Nat.reduceSub, Nat.reduceLT, Nat.reduceEqDiff, if_true, if_false, eq_self, decide_true, decide_false, Bool.false_eq_true, Bool.not_true, Bool.not_false, and_self, and_true, true_and, Nat.zero_lt_succ, Nat.lt_add_one, List.nodup_nil, List.nodup_cons, List.not_mem_nil, not_false_eq_true, t_check_poly h, t_check_poly k]
theorem t_check_up {p : List Rat} {m : Nat} (hm : m ≤ 6) (h : Pol p (m + 1)) : m_check_poly_up_to [.d (.int (m : Nat)), .d (po p)] = some (.ok .non, []) := by
  have e0 := t_is_poly (p := p) ⟨h.tr, h.sm, by have := h.len; omega⟩
  have e1 : fLen [po p] = some (.int (p.length : Nat)) := by
    show some (DV.int (((p.map fr).length : Nat) : Int)) = _
    rw [List.length_map]
  have e2 : ¬ (((p.length : Nat) : Int) > (m : Int) + 1) := by have := h.len; omega
  simp only [m_check_poly_up_to, g_check_poly_up_to, M.bnd, M.ret, M.stk, sSeq, sRet, sRetN, sIf, sSet, sExpr, sNx, eVar, eC, eBin, eFn, endFn, argF, slotsOf, wr, wr1, outsF, aCons, aNil, eTup, datas, eCal, snaps, snap, handed, eIf, tOf, tNo, tBoth, tAny, eBoth, eAny, eNo, eNeg, eChain, eLst, lDisp, runD, startF, slotOf, Tg.put, Tg.puts, e1, sPar2, eSl, eBits, eVar, oSome, oNone, List.map_cons, List.map_nil, List.length_cons, List.length_nil, List.replicate, List.cons_append, List.nil_append, List.append_nil, List.getElem?_cons_zero, List.getElem?_cons_succ, List.set_cons_zero, List.set_cons_succ, Option.map_some, Option.bind_some, lim0, lim1, lim2, lim3, lim4, lim5, lim6, lim7, lim8, lim9, lim10, lim11, Nat.reduceAdd, Nat.reduceSub, Nat.reduceLT, Nat.reduceEqDiff, if_true, if_false, eq_self, decide_true, decide_false, Bool.false_eq_true, Bool.not_true, Bool.not_false, and_self, and_true, true_and, Nat.zero_lt_succ, Nat.lt_add_one, List.nodup_nil, List.nodup_cons, List.not_mem_nil, not_false_eq_true, e0, e1, add_ok, gt_ok, decide_eq_false e2]
theorem t_check_most {m : Nat} (h1 : 1 ≤ m) (h2 : m ≤ 6) : m_check_most [.d (.int (m : Nat))] = some (.ok .non, []) := by
  have w : ∀ i : Int, m_is_whole [.d (.int i)] = some (.ok (.bl true), []) := fun _ => rfl
  have c1 : (1 : Int) ≤ (m : Int) := by omega
  have c2 : (m : Int) ≤ 6 := by omega
  have e3 : ∀ i j : Int, gLe (.int i) (.int j) = some (.bl (decide (i ≤ j))) := fun _ _ => rfl
  have e0 : m_is_between [.d (.int (m : Nat)), .d (.int 1), .d c_MOST_DEGREE] = some (.ok (.bl true), []) := by
    simp only [m_is_between, g_is_between, c_MOST_DEGREE, M.bnd, M.ret, M.stk, sSeq, sRet, sRetN, sIf, sSet, sExpr, sNx, eVar, eC, eBin, eFn, endFn, argF, slotsOf, wr, wr1, outsF, aCons, aNil, eTup, datas, eCal, snaps, snap, handed, eIf, tOf, tNo, tBoth, tAny, eBoth, eAny, eNo, eNeg, eChain, eLst, lDisp, runD, startF, slotOf, Tg.put, Tg.puts, e1, sPar2, eSl, eBits, eVar, oSome, oNone, List.map_cons, List.map_nil, List.length_cons, List.length_nil, List.replicate, List.cons_append, List.nil_append, List.append_nil, List.getElem?_cons_zero, List.getElem?_cons_succ, List.set_cons_zero, List.set_cons_succ, Option.map_some, Option.bind_some, lim0, lim1, lim2, lim3, lim4, lim5, lim6, lim7, lim8, lim9, lim10, lim11, Nat.reduceAdd, Nat.reduceSub, Nat.reduceLT, Nat.reduceEqDiff, if_true, if_false, eq_self, decide_true, decide_false, Bool.false_eq_true, Bool.not_true, Bool.not_false, and_self, and_true, true_and, Nat.zero_lt_succ, Nat.lt_add_one, List.nodup_nil, List.nodup_cons, List.not_mem_nil, not_false_eq_true, w, e3, decide_eq_true c1, decide_eq_true c2]
  simp only [m_check_most, g_check_most, M.bnd, M.ret, M.stk, sSeq, sRet, sRetN, sIf, sSet, sExpr, sNx, eVar, eC, eBin, eFn, endFn, argF, slotsOf, wr, wr1, outsF, aCons, aNil, eTup, datas, eCal, snaps, snap, handed, eIf, tOf, tNo, tBoth, tAny, eBoth, eAny, eNo, eNeg, eChain, eLst, lDisp, runD, startF, slotOf, Tg.put, Tg.puts, e1, sPar2, eSl, eBits, eVar, oSome, oNone, List.map_cons, List.map_nil, List.length_cons, List.length_nil, List.replicate, List.cons_append, List.nil_append, List.append_nil, List.getElem?_cons_zero, List.getElem?_cons_succ, List.set_cons_zero, List.set_cons_succ, Option.map_some, Option.bind_some, lim0, lim1, lim2, lim3, lim4, lim5, lim6, lim7, lim8, lim9, lim10, lim11, Nat.reduceAdd, Nat.reduceSub, Nat.reduceLT, Nat.reduceEqDiff, if_true, if_false, eq_self, decide_true, decide_false, Bool.false_eq_true, Bool.not_true, Bool.not_false, and_self, and_true, true_and, Nat.zero_lt_succ, Nat.lt_add_one, List.nodup_nil, List.nodup_cons, List.not_mem_nil, not_false_eq_true, e0]
end L50
set_option maxRecDepth 100000
set_option maxHeartbeats 1000000
namespace L50
open PySem DL
/-! ### the law's own polynomials -/
theorem sl_init {d : List DV} {x : DV} : gSl (.lst (d ++ [x])) none (some (-1)) = some (.lst d) := by
  show some (DV.lst (cutD (d ++ [x]) none (some (-1)))) = _
  unfold cutD
  rw [HT.sIx_none]
  have h2 : HT.sIx (d ++ [x]).length (d ++ [x]).length (some (-1)) = d.length := by
    unfold HT.sIx
    simp
    omega
  rw [h2]
  simp
theorem lx_last {d : List DV} {x : DV} : gIx (.lst (d ++ [x])) (.int (-1)) = some x := ix_last (d := d) (x := x)
theorem eq_nil {a : DV} {d : List DV} {p : PyData} (h : DV.py (.lst (a :: d)) = some p) (hs : SeqAt.shaped p = true) : gEq (.lst (a :: d)) (.lst []) = some (.bl false) := by
  unfold gEq eqB
  rw [h]
  have e2 : DV.py (.lst []) = some (.list []) := rfl
  rw [e2]
  simp only [hs, true_and]
  have e3 : SeqAt.shaped (.list []) = true := rfl
  simp only [e3, if_true, Option.map_some]
  simp only [DV.py] at h
  cases q : DV.pys (a :: d) with
  | none => rw [q] at h; cases h
  | some ps =>
    rw [q] at h
    cases h
    cases ps with
    | nil =>
      simp only [DV.pys] at q
      split at q <;> cases q
    | cons => rfl
theorem py_pl (p : List Rat) : DV.py (pl p) = some (.list (p.map pyQ)) := by simp only [pl, DV.py, pys_po, Option.map_some]
theorem shaped_pl (p : List Rat) : SeqAt.shaped (.list (p.map pyQ)) = true := by
  have h1 := depth_all p
  have h2 : PyData.depth (.list (p.map pyQ)) ≤ 64 := by
    rw [PyData.depth]
    omega
  show (PyData.canLayAll0 (p.map pyQ) && decide (PyData.depth (.list (p.map pyQ)) ≤ 64)) = true
  rw [lay_all, decide_eq_true h2]
  rfl
theorem eq_pl_nil {p : List Rat} : gEq (pl p) (.lst []) = some (.bl (decide (p = []))) := by
  cases p with
  | nil => rfl
  | cons a p =>
    rw [show decide (a :: p = []) = false by simp]
    exact eq_nil (py_pl (a :: p)) (shaped_pl (a :: p))
theorem trim_stay {n0 : Option SV} {q : List Rat} {a : Rat} (ha : a ≠ 0) : ∀ (items : List DV) (o : Option SV), ∃ o', forLoop (.nm 2) b__law_trimmed_1 items [n0, some (.d (pl (q ++ [a]))), o] = some (.ok .nx, [n0, some (.d (pl (q ++ [a]))), o'])
  | [], o => ⟨o, rfl⟩
  | x :: items, o => by
    obtain ⟨o', ih⟩ := trim_stay ha items (some (.d x))
    refine ⟨o', ?_⟩
    have e1 : gIx (pl (q ++ [a])) (.int (-1)) = some (fr a) := by
      unfold pl; rw [List.map_append]; exact lx_last
    have e2 : gEq (.int a.num) (.int 0) = some (.bl false) := by
      rw [eq_ok]
      have : (a.num == 0) = false := by
        rw [beq_eq_false_iff_ne]; intro z; exact ha (Rat.num_eq_zero.mp z)
      rw [this]
    have e3 : gEq (pl (q ++ [a])) (.lst []) = some (.bl false) := by rw [eq_pl_nil]; simp
    have e4 : gIx (fr a) (.int 0) = some (.int a.num) := rfl
    simp only [forLoop, b__law_trimmed_1, M.bnd, M.ret, M.stk, sSeq, sRet, sRetN, sIf, sSet, sExpr, sNx, eVar, eC, eBin, eFn, endFn, argF, slotsOf, wr, wr1, outsF, aCons, aNil, eTup, datas, eCal, snaps, snap, handed, eIf, tOf, tNo, tBoth, tAny, eBoth, eAny, eNo, eNeg, eChain, eLst, lDisp, runD, startF, slotOf, Tg.put, Tg.puts, e1, sPar2, eSl, eBits, eVar, oSome, oNone, List.map_cons, List.map_nil, List.length_cons, List.length_nil, List.replicate, List.cons_append, List.nil_append, List.append_nil, List.getElem?_cons_zero, List.getElem?_cons_succ, List.set_cons_zero, List.set_cons_succ, Option.map_some, Option.bind_some, lim0, lim1, lim2, lim3, lim4, lim5, lim6, lim7, lim8, lim9, lim10, lim11, Nat.reduceAdd, Nat.reduceSub, Nat.reduceLT, Nat.reduceEqDiff, if_true, if_false, eq_self, decide_true, decide_false, Bool.false_eq_true, Bool.not_true, Bool.not_false, and_self, and_true, true_and, Nat.zero_lt_succ, Nat.lt_add_one, List.nodup_nil, List.nodup_cons, List.not_mem_nil, not_false_eq_true, e1, e2, e3, e4]
    exact ih
theorem trim_loop {n0 : Option SV} : ∀ (m : Nat) (q : List Rat) (items : List DV) (o : Option SV), q.length = m + 1 → m + 1 ≤ items.length →
    (trim q = [] ∧ ∃ x z, forLoop (.nm 2) b__law_trimmed_1 items [n0, some (.d (pl q)), o] = some (.ok (.rt (.tup [])), [n0, x, z])) ∨ ∃ z, forLoop (.nm 2) b__law_trimmed_1 items [n0, some (.d (pl q)), o] = some (.ok .nx, [n0, some (.d (pl (trim q))), z]) := by
  intro m
  induction m with
  | zero =>
    intro q items o hq hi
    match q, hq with
    | [a], _ =>
      by_cases z : a = 0
      · subst z
        cases items with
        | nil => simp at hi
        | cons x items => exact .inl ⟨rfl, _, _, rfl⟩
      · obtain ⟨o', h⟩ := trim_stay (n0 := n0) (q := []) z items o
        right
        rw [show trim [a] = [a] by simp [trim, z]]
        exact ⟨o', h⟩
  | succ m ih =>
    intro q items o hq hi
    rcases List.eq_nil_or_concat q with e | ⟨q', a, e⟩
    · subst e; simp at hq
    · rw [List.concat_eq_append] at e
      subst e
      have hl : q'.length = m + 1 := by simpa using hq
      by_cases z : a = 0
      · subst z
        cases items with
        | nil => simp at hi
        | cons x items =>
          have e1 : gIx (pl (q' ++ [0])) (.int (-1)) = some (fr 0) := by
            unfold pl; rw [List.map_append]; exact lx_last
          have e4 : gIx (fr 0) (.int 0) = some (.int 0) := rfl
          have e2 : gEq (.int 0) (.int 0) = some (.bl true) := rfl
          have e5 : gSl (pl (q' ++ [0])) none (some (-1)) = some (pl q') := by
            unfold pl; rw [List.map_append]; exact sl_init
          have e3 : gEq (pl q') (.lst []) = some (.bl false) := by
            rw [eq_pl_nil]
            have : q' ≠ [] := fun w => by subst w; simp at hl
            simp [this]
          have := ih q' items (some (.d x)) hl (by simp at hi; omega)
          rw [trim_snoc0]
          simp only [forLoop, b__law_trimmed_1, M.bnd, M.ret, M.stk, sSeq, sRet, sRetN, sIf, sSet, sExpr, sNx, eVar, eC, eBin, eFn, endFn, argF, slotsOf, wr, wr1, outsF, aCons, aNil, eTup, datas, eCal, snaps, snap, handed, eIf, tOf, tNo, tBoth, tAny, eBoth, eAny, eNo, eNeg, eChain, eLst, lDisp, runD, startF, slotOf, Tg.put, Tg.puts, e1, sPar2, eSl, eBits, eVar, oSome, oNone, List.map_cons, List.map_nil, List.length_cons, List.length_nil, List.replicate, List.cons_append, List.nil_append, List.append_nil, List.getElem?_cons_zero, List.getElem?_cons_succ, List.set_cons_zero, List.set_cons_succ, Option.map_some, Option.bind_some, lim0, lim1, lim2, lim3, lim4, lim5, lim6, lim7, lim8, lim9, lim10, lim11, Nat.reduceAdd, Nat.reduceSub, Nat.reduceLT, Nat.reduceEqDiff, if_true, if_false, eq_self, decide_true, decide_false, Bool.false_eq_true, Bool.not_true, Bool.not_false, and_self, and_true, true_and, Nat.zero_lt_succ, Nat.lt_add_one, List.nodup_nil, List.nodup_cons, List.not_mem_nil, not_false_eq_true, e1, e2, e3, e4, e5]
          exact this
      · obtain ⟨o', h⟩ := trim_stay (n0 := n0) (q := q') z items o
        right
        rw [trim_snoc z]
        exact ⟨o', h⟩
theorem t_trimmed {p : List Rat} (h : p.length ≤ 100) : m__law_trimmed [.d (pl p)] = some (.ok (po (trim p)), []) ∧ m__law_trimmed [.own true (p.map fr)] = some (.ok (po (trim p)), [p.map fr]) := by
  have e1 : fLen [pl p] = some (.int (p.length : Nat)) := by
    show some (DV.int (((p.map fr).length : Nat) : Int)) = _
    rw [List.length_map]
  have e1' : fLen [.lst (p.map fr)] = some (.int (p.length : Nat)) := e1
  have e2 : ∀ q : List Rat, fTup [pl q] = some (po q) := fun _ => rfl
  have hl : -(LIM : Int) ≤ ((p.length : Nat) : Int) ∧ ((p.length : Nat) : Int) ≤ LIM := by rw [lim_int]; omega
  have go : ∀ n0 : Option SV, (trim p = [] ∧ ∃ x z, forLoop (.nm 2) b__law_trimmed_1 (rangeD 0 ((p.length : Nat) : Int).toNat) [n0, some (.d (pl p)), none] = some (.ok (.rt (.tup [])), [n0, x, z])) ∨ ∃ z, forLoop (.nm 2) b__law_trimmed_1 (rangeD 0 ((p.length : Nat) : Int).toNat) [n0, some (.d (pl p)), none] = some (.ok .nx, [n0, some (.d (pl (trim p))), z]) := fun n0 => by
    rw [Int.toNat_natCast]
    cases hp : p.length with
    | zero =>
      have : p = [] := List.eq_nil_of_length_eq_zero hp
      subst this
      exact .inr ⟨_, rfl⟩
    | succ m => exact trim_loop m p _ _ hp (by rw [rangeD_len]; exact Nat.le_refl _)
  simp only [pl] at e2
  constructor
  · rcases go (some (.d (pl p))) with ⟨t, x, z, k⟩ | ⟨z, k⟩
    · simp only [pl] at k
      simp only [m__law_trimmed, g__law_trimmed, sFor, i__law_trimmed_1, iRg1, lList, seqOf, pl, M.bnd, M.ret, M.stk, sSeq, sRet, sRetN, sIf, sSet, sExpr, sNx, eVar, eC, eBin, eFn, endFn, argF, slotsOf, wr, wr1, outsF, aCons, aNil, eTup, datas, eCal, snaps, snap, handed, eIf, tOf, tNo, tBoth, tAny, eBoth, eAny, eNo, eNeg, eChain, eLst, lDisp, runD, startF, slotOf, Tg.put, Tg.puts, e1, sPar2, eSl, eBits, eVar, oSome, oNone, List.map_cons, List.map_nil, List.length_cons, List.length_nil, List.replicate, List.cons_append, List.nil_append, List.append_nil, List.getElem?_cons_zero, List.getElem?_cons_succ, List.set_cons_zero, List.set_cons_succ, Option.map_some, Option.bind_some, lim0, lim1, lim2, lim3, lim4, lim5, lim6, lim7, lim8, lim9, lim10, lim11, Nat.reduceAdd, Nat.reduceSub, Nat.reduceLT, Nat.reduceEqDiff, if_true, if_false, eq_self, decide_true, decide_false, Bool.false_eq_true, Bool.not_true, Bool.not_false, and_self, and_true, true_and, Nat.zero_lt_succ, Nat.lt_add_one, List.nodup_nil, List.nodup_cons, List.not_mem_nil, not_false_eq_true, e1', if_pos hl, ↓k, k, t]
      all_goals rfl
    · simp only [pl] at k
      simp only [m__law_trimmed, g__law_trimmed, sFor, i__law_trimmed_1, iRg1, lList, seqOf, pl, M.bnd, M.ret, M.stk, sSeq, sRet, sRetN, sIf, sSet, sExpr, sNx, eVar, eC, eBin, eFn, endFn, argF, slotsOf, wr, wr1, outsF, aCons, aNil, eTup, datas, eCal, snaps, snap, handed, eIf, tOf, tNo, tBoth, tAny, eBoth, eAny, eNo, eNeg, eChain, eLst, lDisp, runD, startF, slotOf, Tg.put, Tg.puts, e1, sPar2, eSl, eBits, eVar, oSome, oNone, List.map_cons, List.map_nil, List.length_cons, List.length_nil, List.replicate, List.cons_append, List.nil_append, List.append_nil, List.getElem?_cons_zero, List.getElem?_cons_succ, List.set_cons_zero, List.set_cons_succ, Option.map_some, Option.bind_some, lim0, lim1, lim2, lim3, lim4, lim5, lim6, lim7, lim8, lim9, lim10, lim11, Nat.reduceAdd, Nat.reduceSub, Nat.reduceLT, Nat.reduceEqDiff, if_true, if_false, eq_self, decide_true, decide_false, Bool.false_eq_true, Bool.not_true, Bool.not_false, and_self, and_true, true_and, Nat.zero_lt_succ, Nat.lt_add_one, List.nodup_nil, List.nodup_cons, List.not_mem_nil, not_false_eq_true, e1', if_pos hl, ↓k, k, e2]
      all_goals rfl
  · rcases go (some (.own false (p.map fr))) with ⟨t, x, z, k⟩ | ⟨z, k⟩
    · simp only [pl] at k
      simp only [m__law_trimmed, g__law_trimmed, sFor, i__law_trimmed_1, iRg1, lList, seqOf, pl, M.bnd, M.ret, M.stk, sSeq, sRet, sRetN, sIf, sSet, sExpr, sNx, eVar, eC, eBin, eFn, endFn, argF, slotsOf, wr, wr1, outsF, aCons, aNil, eTup, datas, eCal, snaps, snap, handed, eIf, tOf, tNo, tBoth, tAny, eBoth, eAny, eNo, eNeg, eChain, eLst, lDisp, runD, startF, slotOf, Tg.put, Tg.puts, e1, sPar2, eSl, eBits, eVar, oSome, oNone, List.map_cons, List.map_nil, List.length_cons, List.length_nil, List.replicate, List.cons_append, List.nil_append, List.append_nil, List.getElem?_cons_zero, List.getElem?_cons_succ, List.set_cons_zero, List.set_cons_succ, Option.map_some, Option.bind_some, lim0, lim1, lim2, lim3, lim4, lim5, lim6, lim7, lim8, lim9, lim10, lim11, Nat.reduceAdd, Nat.reduceSub, Nat.reduceLT, Nat.reduceEqDiff, if_true, if_false, eq_self, decide_true, decide_false, Bool.false_eq_true, Bool.not_true, Bool.not_false, and_self, and_true, true_and, Nat.zero_lt_succ, Nat.lt_add_one, List.nodup_nil, List.nodup_cons, List.not_mem_nil, not_false_eq_true, e1', if_pos hl, ↓k, k, t]
      all_goals rfl
    · simp only [pl] at k
      simp only [m__law_trimmed, g__law_trimmed, sFor, i__law_trimmed_1, iRg1, lList, seqOf, pl, M.bnd, M.ret, M.stk, sSeq, sRet, sRetN, sIf, sSet, sExpr, sNx, eVar, eC, eBin, eFn, endFn, argF, slotsOf, wr, wr1, outsF, aCons, aNil, eTup, datas, eCal, snaps, snap, handed, eIf, tOf, tNo, tBoth, tAny, eBoth, eAny, eNo, eNeg, eChain, eLst, lDisp, runD, startF, slotOf, Tg.put, Tg.puts, e1, sPar2, eSl, eBits, eVar, oSome, oNone, List.map_cons, List.map_nil, List.length_cons, List.length_nil, List.replicate, List.cons_append, List.nil_append, List.append_nil, List.getElem?_cons_zero, List.getElem?_cons_succ, List.set_cons_zero, List.set_cons_succ, Option.map_some, Option.bind_some, lim0, lim1, lim2, lim3, lim4, lim5, lim6, lim7, lim8, lim9, lim10, lim11, Nat.reduceAdd, Nat.reduceSub, Nat.reduceLT, Nat.reduceEqDiff, if_true, if_false, eq_self, decide_true, decide_false, Bool.false_eq_true, Bool.not_true, Bool.not_false, and_self, and_true, true_and, Nat.zero_lt_succ, Nat.lt_add_one, List.nodup_nil, List.nodup_cons, List.not_mem_nil, not_false_eq_true, e1', if_pos hl, ↓k, k, e2]
      all_goals rfl
end L50
set_option maxRecDepth 100000
set_option maxHeartbeats 1000000
namespace L50
open PySem DL
theorem sm0 : Sm 0 := ⟨by decide, by decide⟩
theorem len_po (r : List Rat) : fLen [po r] = some (.int (r.length : Nat)) := by
  show some (DV.int (((r.map fr).length : Nat) : Int)) = _
  rw [List.length_map]
theorem max_ok {a b : Nat} : fMax [.int (a : Nat), .int (b : Nat)] = some (.int ((max a b : Nat) : Int)) := by
  show some (DV.int (if ((b : Nat) : Int) > ((a : Nat) : Int) then ((b : Nat) : Int) else ((a : Nat) : Int))) = _
  congr 2
  split <;> omega
theorem rep0 {k : Int} (h : -100 ≤ k ∧ k ≤ 100) : gRep (.lst [.tup [.int 0, .int 1]]) (.int k) = some ((List.replicate k.toNat (0 : Rat)).map fr) := by
  show (if -(2 ^ 63) ≤ k ∧ k < 2 ^ 63 ∧ [DV.tup [.int 0, .int 1]].length * k.toNat ≤ LIM then some (List.replicate k.toNat [DV.tup [.int 0, .int 1]]).flatten else none) = _
  rw [if_pos ⟨by omega, by omega, Nat.le_trans (m := 100) (by simp; omega) (by decide)⟩]
  congr 1
  induction k.toNat with
  | zero => rfl
  | succ m ih => rw [List.replicate_succ, List.flatten_cons, ih, List.replicate_succ]; rfl
theorem lcat {p q : List Rat} (h : p.length ≤ 100) (k : q.length ≤ 100) : gAdd (.lst (p.map fr)) (.lst (q.map fr)) = some (pl (p ++ q)) := by
  show (if (p.map fr).length + (q.map fr).length ≤ LIM then some (DV.lst (p.map fr ++ q.map fr)) else none) = _
  rw [if_pos (Nat.le_trans (m := 200) (by simp; omega) (by decide)), pl, List.map_append]
theorem zip_pl {p q : List Rat} : zipIt (pl p) (pl q) = some ((p.zip q).map fun z => .tup [fr z.1, fr z.2]) := by
  show some (zipD (p.map fr) (q.map fr)) = _
  rw [zipD_map]
theorem getD_pad (r : List Rat) (n i : Nat) : (r ++ List.replicate n 0).getD i 0 = r.getD i 0 := by
  simp only [List.getD_eq_getElem?_getD]
  by_cases hi : i < r.length
  · rw [List.getElem?_append_left hi]
  · rw [List.getElem?_append_right (by omega), List.getElem?_replicate, List.getElem?_eq_none (by omega)]
    split <;> rfl
def mixL (p : List Rat) (a : Rat) (q : List Rat) (b : Rat) : List Rat := addL (p.map (a * ·)) (q.map (b * ·))
theorem t_mixed {p q : List Rat} {a b : Rat} (h : p.length ≤ 50) (k : q.length ≤ 50) (hp : Sms p) (hq : Sms q) (ha : Sm a) (hb : Sm b) (hap : ∀ x ∈ p, Sm (a * x)) (hbq : ∀ x ∈ q, Sm (b * x)) :
    m__law_mixed [.d (po p), .d (fr a), .d (po q), .d (fr b)] = some (.ok (po (trim (mixL p a q b))), []) := by
  let n := max p.length q.length
  let pad (r : List Rat) : List Rat := r ++ List.replicate (n - r.length) 0
  have hpad : ∀ r, r = p ∨ r = q → (pad r).length = n := fun r hr => by
    rcases hr with e | e <;> subst e <;> simp [pad, n] <;> omega
  have spad : ∀ (r : List Rat) (c : Rat), Sms r → (∀ x ∈ r, Sm (c * x)) → ∀ x ∈ pad r, Sm x ∧ Sm (c * x) := fun r c hr hc x hx => by
    rcases List.mem_append.mp hx with hx | hx
    · exact ⟨hr x hx, hc x hx⟩
    · rw [List.eq_of_mem_replicate hx, Rat.mul_zero]; exact ⟨sm0, sm0⟩
  let F1 (o5 o6 o7 o8 : Option SV) : Frm := [some (.d (po p)), some (.d (fr a)), some (.d (po q)), some (.d (fr b)), some (.d (.int (n : Nat))), o5, o6, o7, o8]
  have c1 := comp_pure (T := .nm 6) (fi := i__law_mixed_2) (fe := x__law_mixed_2) (fr := F1 none none none none) (enc := po) (F := fun r => pl (pad r)) (fun r => F1 none (some (.d (po r))) none none) (l := [p, q]) rfl rfl rfl (fun _ => rfl) (fun _ => rfl) (fun _ => rfl) rfl (fun r hr => by
    have hr' : r.length ≤ 50 := by
      simp at hr; rcases hr with e | e <;> subst e <;> assumption
    have hn : n ≤ 50 := by simp only [n]; omega
    have e1 := rep0 (k := (n : Int) - (r.length : Nat)) ⟨by omega, by omega⟩
    have e2 : ((n : Int) - (r.length : Nat)).toNat = n - r.length := by omega
    have e3 := lcat (p := r) (q := List.replicate (n - r.length) 0) (by omega) (by simp; omega)
    have e4 : seqOf (po r) = some (r.map fr) := rfl
    have e5 : lList (aCons (eVar 6) aNil) (F1 none (some (.d (po r))) none none) = some (.ok (r.map fr), F1 none (some (.d (po r))) none none) := rfl
    simp only [F1] at e5 ⊢
    simp only [x__law_mixed_2, lBin, M.bnd, M.ret, M.stk, sSeq, sRet, sRetN, sIf, sSet, sExpr, sNx, eVar, eC, eBin, eFn, endFn, argF, slotsOf, wr, wr1, outsF, aCons, aNil, eTup, datas, eCal, snaps, snap, handed, eIf, tOf, tNo, tBoth, tAny, eBoth, eAny, eNo, eNeg, eChain, eLst, lDisp, runD, startF, slotOf, Tg.put, Tg.puts, e1, sPar2, eSl, eBits, eVar, oSome, oNone, ↓e5, List.map_cons, List.map_nil, List.length_cons, List.length_nil, List.replicate, List.cons_append, List.nil_append, List.append_nil, List.getElem?_cons_zero, List.getElem?_cons_succ, List.set_cons_zero, List.set_cons_succ, Option.map_some, Option.bind_some, lim0, lim1, lim2, lim3, lim4, lim5, lim6, lim7, lim8, lim9, lim10, lim11, Nat.reduceAdd, Nat.reduceSub, Nat.reduceLT, Nat.reduceEqDiff, if_true, if_false, eq_self, decide_true, decide_false, Bool.false_eq_true, Bool.not_true, Bool.not_false, and_self, and_true, true_and, Nat.zero_lt_succ, Nat.lt_add_one, List.nodup_nil, List.nodup_cons, List.not_mem_nil, not_false_eq_true, len_po, sub_ok, e1, e2, e3, pad]) (by simp)
  have g0 : gIx (.lst [pl (pad p), pl (pad q)]) (.int 0) = some (pl (pad p)) := rfl
  have g1 : gIx (.lst [pl (pad p), pl (pad q)]) (.int 1) = some (pl (pad q)) := rfl
  let L : DV := .lst [pl (pad p), pl (pad q)]
  have hit : i__law_mixed_1 (F1 (some (.d L)) none none none) = some (.ok (((pad p).zip (pad q)).map fun z => .tup [fr z.1, fr z.2]), F1 (some (.d L)) none none none) := by
    simp only [i__law_mixed_1, iZp, F1, L, M.bnd, M.ret, M.stk, sSeq, sRet, sRetN, sIf, sSet, sExpr, sNx, eVar, eC, eBin, eFn, endFn, argF, slotsOf, wr, wr1, outsF, aCons, aNil, eTup, datas, eCal, snaps, snap, handed, eIf, tOf, tNo, tBoth, tAny, eBoth, eAny, eNo, eNeg, eChain, eLst, lDisp, runD, startF, slotOf, Tg.put, Tg.puts, e1, sPar2, eSl, eBits, eVar, oSome, oNone, List.map_cons, List.map_nil, List.length_cons, List.length_nil, List.replicate, List.cons_append, List.nil_append, List.append_nil, List.getElem?_cons_zero, List.getElem?_cons_succ, List.set_cons_zero, List.set_cons_succ, Option.map_some, Option.bind_some, lim0, lim1, lim2, lim3, lim4, lim5, lim6, lim7, lim8, lim9, lim10, lim11, Nat.reduceAdd, Nat.reduceSub, Nat.reduceLT, Nat.reduceEqDiff, if_true, if_false, eq_self, decide_true, decide_false, Bool.false_eq_true, Bool.not_true, Bool.not_false, and_self, and_true, true_and, Nat.zero_lt_succ, Nat.lt_add_one, List.nodup_nil, List.nodup_cons, List.not_mem_nil, not_false_eq_true, g0, g1, zip_pl, M.of]
  have c2 := comp_pure (T := .tp [.nm 7, .nm 8]) (fe := x__law_mixed_1) (F := fun z => fr (a * z.1 + b * z.2)) (fun z => F1 (some (.d L)) none (some (.d (fr z.1))) (some (.d (fr z.2)))) hit rfl rfl (fun _ => rfl) (fun _ => rfl) (fun _ => rfl) rfl (fun z hz => by
    have z1 := spad p a hp hap z.1 (List.of_mem_zip hz).1
    have z2 := spad q b hq hbq z.2 (List.of_mem_zip hz).2
    simp only [x__law_mixed_1, F1, M.bnd, M.ret, M.stk, sSeq, sRet, sRetN, sIf, sSet, sExpr, sNx, eVar, eC, eBin, eFn, endFn, argF, slotsOf, wr, wr1, outsF, aCons, aNil, eTup, datas, eCal, snaps, snap, handed, eIf, tOf, tNo, tBoth, tAny, eBoth, eAny, eNo, eNeg, eChain, eLst, lDisp, runD, startF, slotOf, Tg.put, Tg.puts, e1, sPar2, eSl, eBits, eVar, oSome, oNone, List.map_cons, List.map_nil, List.length_cons, List.length_nil, List.replicate, List.cons_append, List.nil_append, List.append_nil, List.getElem?_cons_zero, List.getElem?_cons_succ, List.set_cons_zero, List.set_cons_succ, Option.map_some, Option.bind_some, lim0, lim1, lim2, lim3, lim4, lim5, lim6, lim7, lim8, lim9, lim10, lim11, Nat.reduceAdd, Nat.reduceSub, Nat.reduceLT, Nat.reduceEqDiff, if_true, if_false, eq_self, decide_true, decide_false, Bool.false_eq_true, Bool.not_true, Bool.not_false, and_self, and_true, true_and, Nat.zero_lt_succ, Nat.lt_add_one, List.nodup_nil, List.nodup_cons, List.not_mem_nil, not_false_eq_true, t_lby ha z1.1, t_lby hb z2.1, t_lplus z1.2 z2.2]) (by
      rw [List.length_zip, hpad p (.inl rfl), hpad q (.inr rfl)]; simp only [n]; omega)
  have e4 : ((pad p).zip (pad q)).map (fun z => fr (a * z.1 + b * z.2)) = (mixL p a q b).map fr := by
    have hl : (pad p).length = (pad q).length := by rw [hpad p (.inl rfl), hpad q (.inr rfl)]
    have := zip_pad (fun x y => a * x + b * y) (pad p) (pad q) hl
    rw [show (fun z : Rat × Rat => fr (a * z.1 + b * z.2)) = fr ∘ (fun z => a * z.1 + b * z.2) from rfl, ← List.map_map, this, mixL, addL, hpad p (.inl rfl)]
    congr 1
    simp only [List.length_map]
    apply List.map_congr_left
    intro i _
    rw [getD_pad, getD_pad]
    have m1 := cf_map p a i
    have m2 := cf_map q b i
    simp only [cf] at m1 m2
    rw [m1, m2]
  have e5 := (t_trimmed (p := mixL p a q b) (by simp [mixL, addL]; omega)).1
  unfold pl at e5
  rw [e4] at c2
  have em : fMax [.int (p.length : Nat), .int (q.length : Nat)] = some (.int (n : Nat)) := max_ok
  simp only [F1, L, List.map_cons, List.map_nil] at c1 c2
  simp only [m__law_mixed, g__law_mixed, ↓c1, c1, ↓c2, c2, M.bnd, M.ret, M.stk, sSeq, sRet, sRetN, sIf, sSet, sExpr, sNx, eVar, eC, eBin, eFn, endFn, argF, slotsOf, wr, wr1, outsF, aCons, aNil, eTup, datas, eCal, snaps, snap, handed, eIf, tOf, tNo, tBoth, tAny, eBoth, eAny, eNo, eNeg, eChain, eLst, lDisp, runD, startF, slotOf, Tg.put, Tg.puts, e1, sPar2, eSl, eBits, eVar, oSome, oNone, List.map_cons, List.map_nil, List.length_cons, List.length_nil, List.replicate, List.cons_append, List.nil_append, List.append_nil, List.getElem?_cons_zero, List.getElem?_cons_succ, List.set_cons_zero, List.set_cons_succ, Option.map_some, Option.bind_some, lim0, lim1, lim2, lim3, lim4, lim5, lim6, lim7, lim8, lim9, lim10, lim11, Nat.reduceAdd, Nat.reduceSub, Nat.reduceLT, Nat.reduceEqDiff, if_true, if_false, eq_self, decide_true, decide_false, Bool.false_eq_true, Bool.not_true, Bool.not_false, and_self, and_true, true_and, Nat.zero_lt_succ, Nat.lt_add_one, List.nodup_nil, List.nodup_cons, List.not_mem_nil, not_false_eq_true, len_po, em, e5]
theorem t_lrise {p : List Rat} (h : p.length ≤ 100) (hp : Sms p) : m__law_rise [.d (po p)] = some (.ok (po (trim (riseL p))), []) := by
  let F0 : Frm := [some (.d (po p)), none, none]
  have hit : i__law_rise_1 F0 = some (.ok ((p.zipIdx 0).map fun z => .tup [.int (z.2 : Nat), fr z.1]), F0) := by
    simp only [i__law_rise_1, iEn, F0, M.bnd, M.ret, M.stk, sSeq, sRet, sRetN, sIf, sSet, sExpr, sNx, eVar, eC, eBin, eFn, endFn, argF, slotsOf, wr, wr1, outsF, aCons, aNil, eTup, datas, eCal, snaps, snap, handed, eIf, tOf, tNo, tBoth, tAny, eBoth, eAny, eNo, eNeg, eChain, eLst, lDisp, runD, startF, slotOf, Tg.put, Tg.puts, e1, sPar2, eSl, eBits, eVar, oSome, oNone, List.map_cons, List.map_nil, List.length_cons, List.length_nil, List.replicate, List.cons_append, List.nil_append, List.append_nil, List.getElem?_cons_zero, List.getElem?_cons_succ, List.set_cons_zero, List.set_cons_succ, Option.map_some, Option.bind_some, lim0, lim1, lim2, lim3, lim4, lim5, lim6, lim7, lim8, lim9, lim10, lim11, Nat.reduceAdd, Nat.reduceSub, Nat.reduceLT, Nat.reduceEqDiff, if_true, if_false, eq_self, decide_true, decide_false, Bool.false_eq_true, Bool.not_true, Bool.not_false, and_self, and_true, true_and, Nat.zero_lt_succ, Nat.lt_add_one, List.nodup_nil, List.nodup_cons, List.not_mem_nil, not_false_eq_true, po, seqOf, M.of, enumD_map]
  have hcmp := comp_pure (T := .tp [.nm 1, .nm 2]) (fe := x__law_rise_1) (F := fun z => fr (nr z.2 * z.1)) (fun z => [some (.d (po p)), some (.d (.int (z.2 : Nat))), some (.d (fr z.1))]) hit rfl rfl (fun _ => rfl) (fun _ => rfl) (fun _ => rfl) rfl (fun z hz => by
    have z1 : Sm z.1 := hp z.1 (by have := List.mem_zipIdx' hz; obtain ⟨q1, q2⟩ := this; rw [q2]; exact List.getElem_mem _)
    have z2 : Sm (nr z.2) := sm_nr (by have := (List.mem_zipIdx' hz).1; omega)
    have e := t_lby z2 z1
    simp only [show fr (nr z.2) = .tup [.int (z.2 : Nat), .int 1] from rfl] at e
    simp only [x__law_rise_1, M.bnd, M.ret, M.stk, sSeq, sRet, sRetN, sIf, sSet, sExpr, sNx, eVar, eC, eBin, eFn, endFn, argF, slotsOf, wr, wr1, outsF, aCons, aNil, eTup, datas, eCal, snaps, snap, handed, eIf, tOf, tNo, tBoth, tAny, eBoth, eAny, eNo, eNeg, eChain, eLst, lDisp, runD, startF, slotOf, Tg.put, Tg.puts, e1, sPar2, eSl, eBits, eVar, oSome, oNone, List.map_cons, List.map_nil, List.length_cons, List.length_nil, List.replicate, List.cons_append, List.nil_append, List.append_nil, List.getElem?_cons_zero, List.getElem?_cons_succ, List.set_cons_zero, List.set_cons_succ, Option.map_some, Option.bind_some, lim0, lim1, lim2, lim3, lim4, lim5, lim6, lim7, lim8, lim9, lim10, lim11, Nat.reduceAdd, Nat.reduceSub, Nat.reduceLT, Nat.reduceEqDiff, if_true, if_false, eq_self, decide_true, decide_false, Bool.false_eq_true, Bool.not_true, Bool.not_false, and_self, and_true, true_and, Nat.zero_lt_succ, Nat.lt_add_one, List.nodup_nil, List.nodup_cons, List.not_mem_nil, not_false_eq_true, e]) (by simpa using h)
  have e5 := (t_trimmed (p := riseL p) (by simp [riseL]; omega)).1
  unfold pl at e5
  simp only [F0] at hcmp
  simp only [m__law_rise, g__law_rise, ↓hcmp, hcmp, M.bnd, M.ret, M.stk, sSeq, sRet, sRetN, sIf, sSet, sExpr, sNx, eVar, eC, eBin, eFn, endFn, argF, slotsOf, wr, wr1, outsF, aCons, aNil, eTup, datas, eCal, snaps, snap, handed, eIf, tOf, tNo, tBoth, tAny, eBoth, eAny, eNo, eNeg, eChain, eLst, lDisp, runD, startF, slotOf, Tg.put, Tg.puts, e1, sPar2, eSl, eBits, eVar, oSome, oNone, List.map_cons, List.map_nil, List.length_cons, List.length_nil, List.replicate, List.cons_append, List.nil_append, List.append_nil, List.getElem?_cons_zero, List.getElem?_cons_succ, List.set_cons_zero, List.set_cons_succ, Option.map_some, Option.bind_some, lim0, lim1, lim2, lim3, lim4, lim5, lim6, lim7, lim8, lim9, lim10, lim11, Nat.reduceAdd, Nat.reduceSub, Nat.reduceLT, Nat.reduceEqDiff, if_true, if_false, eq_self, decide_true, decide_false, Bool.false_eq_true, Bool.not_true, Bool.not_false, and_self, and_true, true_and, Nat.zero_lt_succ, Nat.lt_add_one, List.nodup_nil, List.nodup_cons, List.not_mem_nil, not_false_eq_true, sl_one, rise_map, e5]
theorem t_lscaled {p : List Rat} {c : Rat} (h : p.length ≤ 100) (hp : Sms p) (hc : Sm c) : m__law_scaled [.d (po p), .d (fr c)] = some (.ok (po (trim (p.map (· * c)))), []) := by
  have hcmp := comp_pure (T := .nm 2) (fi := i__law_scaled_1) (fe := x__law_scaled_1) (fr := [some (.d (po p)), some (.d (fr c)), none]) (enc := L50.fr) (F := L50.fr ∘ (· * c)) (fun a => [some (.d (po p)), some (.d (fr c)), some (.d (fr a))]) (l := p) rfl rfl rfl (fun _ => rfl) (fun _ => rfl) (fun _ => rfl) rfl (fun a ha => by
    simp only [x__law_scaled_1, M.bnd, M.ret, M.stk, sSeq, sRet, sRetN, sIf, sSet, sExpr, sNx, eVar, eC, eBin, eFn, endFn, argF, slotsOf, wr, wr1, outsF, aCons, aNil, eTup, datas, eCal, snaps, snap, handed, eIf, tOf, tNo, tBoth, tAny, eBoth, eAny, eNo, eNeg, eChain, eLst, lDisp, runD, startF, slotOf, Tg.put, Tg.puts, e1, sPar2, eSl, eBits, eVar, oSome, oNone, List.map_cons, List.map_nil, List.length_cons, List.length_nil, List.replicate, List.cons_append, List.nil_append, List.append_nil, List.getElem?_cons_zero, List.getElem?_cons_succ, List.set_cons_zero, List.set_cons_succ, Option.map_some, Option.bind_some, lim0, lim1, lim2, lim3, lim4, lim5, lim6, lim7, lim8, lim9, lim10, lim11, Nat.reduceAdd, Nat.reduceSub, Nat.reduceLT, Nat.reduceEqDiff, if_true, if_false, eq_self, decide_true, decide_false, Bool.false_eq_true, Bool.not_true, Bool.not_false, and_self, and_true, true_and, Nat.zero_lt_succ, Nat.lt_add_one, List.nodup_nil, List.nodup_cons, List.not_mem_nil, not_false_eq_true, t_lby (hp a ha) hc, Function.comp]) h
  have e2 := (t_trimmed (p := p.map (· * c)) (by simpa using h)).1
  unfold pl at e2
  rw [List.map_map] at e2
  simp only [m__law_scaled, g__law_scaled, ↓hcmp, hcmp, M.bnd, M.ret, M.stk, sSeq, sRet, sRetN, sIf, sSet, sExpr, sNx, eVar, eC, eBin, eFn, endFn, argF, slotsOf, wr, wr1, outsF, aCons, aNil, eTup, datas, eCal, snaps, snap, handed, eIf, tOf, tNo, tBoth, tAny, eBoth, eAny, eNo, eNeg, eChain, eLst, lDisp, runD, startF, slotOf, Tg.put, Tg.puts, e1, sPar2, eSl, eBits, eVar, oSome, oNone, List.map_cons, List.map_nil, List.length_cons, List.length_nil, List.replicate, List.cons_append, List.nil_append, List.append_nil, List.getElem?_cons_zero, List.getElem?_cons_succ, List.set_cons_zero, List.set_cons_succ, Option.map_some, Option.bind_some, lim0, lim1, lim2, lim3, lim4, lim5, lim6, lim7, lim8, lim9, lim10, lim11, Nat.reduceAdd, Nat.reduceSub, Nat.reduceLT, Nat.reduceEqDiff, if_true, if_false, eq_self, decide_true, decide_false, Bool.false_eq_true, Bool.not_true, Bool.not_false, and_self, and_true, true_and, Nat.zero_lt_succ, Nat.lt_add_one, List.nodup_nil, List.nodup_cons, List.not_mem_nil, not_false_eq_true, e2]
/-! ### products: what they are is not asked -/
theorem enumD_cons (k : Nat) (a : Rat) (r : List Rat) : enumD k ((a :: r).map fr) = .tup [.int (k : Nat), fr a] :: enumD (k + 1) (r.map fr) := rfl
theorem il_get {f : List Rat} {n : Nat} (h : n < f.length) : gIx (.lst (f.map fr)) (.int (n : Int)) = some (fr (cf f n)) := by
  refine ix_at ?_
  rw [List.getElem?_map, List.getElem?_eq_getElem h]
  simp [cf, h]
theorem il_ix {f : List Rat} {n : Nat} (h : n < f.length) : L2.ixN (f.map fr).length (n : Int) = some n := by
  unfold L2.ixN
  rw [if_pos (by omega), if_pos (by rw [List.length_map]; omega), Int.toNat_natCast]
theorem prod_in {P Q : DV} {D1 D2 B1 B2 n : Nat} {a : Rat} {at_ : Nat} (hD : 0 < D1 * D2) (s1 : D1 * D2 < 2 ^ 1000) (ha : Bd D1 B1 a) (hsa : Sm a) : ∀ (r : List Rat) (k c : Nat) (f : List Rat) (o5 o6 : Option SV), (∀ b ∈ r, Bd D2 B2 b ∧ Sm b) → at_ + k + r.length ≤ n → f.length = n → Bp (D1 * D2) (c * (B1 * B2)) f → (c + r.length) * (B1 * B2) < 2 ^ 1000 →
    ∃ (f' : List Rat) (x y : Option SV), forLoop (.tp [.nm 5, .nm 6]) b__law_product_1 (enumD k (r.map fr)) [some (.d P), some (.d Q), some (.own true (f.map fr)), some (.d (.int (at_ : Nat))), some (.d (fr a)), o5, o6] = some (.ok .nx, [some (.d P), some (.d Q), some (.own true (f'.map fr)), some (.d (.int (at_ : Nat))), some (.d (fr a)), x, y]) ∧ f'.length = n ∧ Bp (D1 * D2) ((c + r.length) * (B1 * B2)) f'
  | [], k, c, f, o5, o6, _, _, hf, hb, _ => ⟨f, o5, o6, rfl, hf, by simpa using hb⟩
  | b :: r, k, c, f, o5, o6, hr, hn, hf, hb, hs => by
    have hi : at_ + k < f.length := by rw [hf]; simp at hn; omega
    obtain ⟨hb1, hb2⟩ := hr b (List.mem_cons_self ..)
    have hbm : (c + 1) * (B1 * B2) ≤ (c + (b :: r).length) * (B1 * B2) := Nat.mul_le_mul_right _ (by simp)
    have hc : c * (B1 * B2) ≤ (c + 1) * (B1 * B2) := Nat.mul_le_mul_right _ (by omega)
    have h1 : B1 * B2 ≤ (c + 1) * (B1 * B2) := Nat.le_mul_of_pos_left _ (by omega)
    have p1 := bd_mul ha hb1
    have sp := bd_sm hD s1 (by omega) p1
    have g1 := getD_bd hb (at_ + k)
    have sg := bd_sm hD s1 (by omega) g1
    have p2 : Bd (D1 * D2) ((c + 1) * (B1 * B2)) (cf f (at_ + k) + a * b) := by
      rw [Nat.add_mul, Nat.one_mul]
      exact bd_add hD g1 p1
    have hset : Bp (D1 * D2) ((c + 1) * (B1 * B2)) (f.set (at_ + k) (cf f (at_ + k) + a * b)) := fun x hx => by
      rcases List.mem_or_eq_of_mem_set hx with hx | hx
      · exact bd_mono hc (hb x hx)
      · rw [hx]; exact p2
    obtain ⟨f', x, y, e, hl, hq⟩ := prod_in (P := P) (Q := Q) (n := n) (at_ := at_) hD s1 ha hsa r (k + 1) (c + 1) (f.set (at_ + k) (cf f (at_ + k) + a * b)) (some (.d (.int (k : Nat)))) (some (.d (fr b))) (fun z hz => hr z (List.mem_cons_of_mem _ hz)) (by simp at hn; omega) (by rw [List.length_set, hf]) hset (by simp at hs; rw [show c + 1 + r.length = c + (r.length + 1) by omega]; exact hs)
    refine ⟨f', x, y, ?_, hl, by simp; rw [show c + (r.length + 1) = c + 1 + r.length by omega]; exact hq⟩
    have e1 : gAdd (.int (at_ : Nat)) (.int (k : Nat)) = some (.int ((at_ + k : Nat) : Int)) := by rw [add_ok]; rfl
    have e2 := il_get hi
    have e3 := il_ix hi
    have e4 : (f.map fr).set (at_ + k) (fr (cf f (at_ + k) + a * b)) = (f.set (at_ + k) (cf f (at_ + k) + a * b)).map fr := List.map_set.symm
    rw [enumD_cons]
    simp only [forLoop, b__law_product_1, sPut, M.bnd, M.ret, M.stk, sSeq, sRet, sRetN, sIf, sSet, sExpr, sNx, eVar, eC, eBin, eFn, endFn, argF, slotsOf, wr, wr1, outsF, aCons, aNil, eTup, datas, eCal, snaps, snap, handed, eIf, tOf, tNo, tBoth, tAny, eBoth, eAny, eNo, eNeg, eChain, eLst, lDisp, runD, startF, slotOf, Tg.put, Tg.puts, e1, sPar2, eSl, eBits, eVar, oSome, oNone, List.map_cons, List.map_nil, List.length_cons, List.length_nil, List.replicate, List.cons_append, List.nil_append, List.append_nil, List.getElem?_cons_zero, List.getElem?_cons_succ, List.set_cons_zero, List.set_cons_succ, Option.map_some, Option.bind_some, lim0, lim1, lim2, lim3, lim4, lim5, lim6, lim7, lim8, lim9, lim10, lim11, Nat.reduceAdd, Nat.reduceSub, Nat.reduceLT, Nat.reduceEqDiff, if_true, if_false, eq_self, decide_true, decide_false, Bool.false_eq_true, Bool.not_true, Bool.not_false, and_self, and_true, true_and, Nat.zero_lt_succ, Nat.lt_add_one, List.nodup_nil, List.nodup_cons, List.not_mem_nil, not_false_eq_true, e1, e2, e3, t_lby hsa hb2, t_lplus sg sp, e4]
    exact e
end L50
set_option maxRecDepth 100000
set_option maxHeartbeats 1000000
namespace L50
open PySem DL
theorem prod_out {P : DV} {q : List Rat} {D1 D2 B1 B2 n : Nat} (hD : 0 < D1 * D2) (s1 : D1 * D2 < 2 ^ 1000) (hq : ∀ b ∈ q, Bd D2 B2 b ∧ Sm b) : ∀ (r : List Rat) (k c : Nat) (f : List Rat) (o3 o4 o5 o6 : Option SV), (∀ a ∈ r, Bd D1 B1 a ∧ Sm a) → (r ≠ [] → k + r.length - 1 + q.length ≤ n) → f.length = n → Bp (D1 * D2) (c * (B1 * B2)) f → (c + r.length * q.length) * (B1 * B2) < 2 ^ 1000 →
    ∃ (f' : List Rat) (x y z w : Option SV), forLoop (.tp [.nm 3, .nm 4]) b__law_product_2 (enumD k (r.map fr)) [some (.d P), some (.d (po q)), some (.own true (f.map fr)), o3, o4, o5, o6] = some (.ok .nx, [some (.d P), some (.d (po q)), some (.own true (f'.map fr)), x, y, z, w]) ∧ f'.length = n ∧ Bp (D1 * D2) ((c + r.length * q.length) * (B1 * B2)) f'
  | [], k, c, f, o3, o4, o5, o6, _, _, hf, hb, _ => ⟨f, o3, o4, o5, o6, rfl, hf, by simpa using hb⟩
  | a :: r, k, c, f, o3, o4, o5, o6, hr, hn, hf, hb, hs => by
    obtain ⟨ha1, ha2⟩ := hr a (List.mem_cons_self ..)
    have hn' := hn (by simp)
    have hlen : c + (a :: r).length * q.length = c + q.length + r.length * q.length := by rw [List.length_cons, Nat.add_mul, Nat.one_mul]; omega
    rw [hlen] at hs ⊢
    have hle : (c + q.length) * (B1 * B2) ≤ (c + q.length + r.length * q.length) * (B1 * B2) := Nat.mul_le_mul_right _ (by omega)
    obtain ⟨f1, x1, y1, e1, hl1, hb1⟩ := prod_in (P := P) (Q := po q) (n := n) (at_ := k) hD s1 ha1 ha2 q 0 c f o5 o6 hq (by simp at hn'; omega) hf hb (by omega)
    obtain ⟨f2, x2, y2, z2, w2, e2, hl2, hb2⟩ := prod_out (P := P) hD s1 hq r (k + 1) (c + q.length) f1 (some (.d (.int (k : Nat)))) (some (.d (fr a))) x1 y1 (fun z hz => hr z (List.mem_cons_of_mem _ hz)) (fun hne => by simp at hn'; have : 0 < r.length := List.length_pos_iff.mpr hne; omega) hl1 hb1 hs
    refine ⟨f2, x2, y2, z2, w2, ?_, hl2, hb2⟩
    have hit : iEn (aCons (eVar 1) aNil) [some (.d P), some (.d (po q)), some (.own true (f.map fr)), some (.d (.int (k : Nat))), some (.d (fr a)), o5, o6] = some (.ok (enumD 0 (q.map fr)), [some (.d P), some (.d (po q)), some (.own true (f.map fr)), some (.d (.int (k : Nat))), some (.d (fr a)), o5, o6]) := rfl
    rw [enumD_cons]
    simp only [forLoop, b__law_product_2, sFor, i__law_product_1, M.bnd, M.ret, M.stk, sSeq, sRet, sRetN, sIf, sSet, sExpr, sNx, eVar, eC, eBin, eFn, endFn, argF, slotsOf, wr, wr1, outsF, aCons, aNil, eTup, datas, eCal, snaps, snap, handed, eIf, tOf, tNo, tBoth, tAny, eBoth, eAny, eNo, eNeg, eChain, eLst, lDisp, runD, startF, slotOf, Tg.put, Tg.puts, e1, sPar2, eSl, eBits, eVar, oSome, oNone, List.map_cons, List.map_nil, List.length_cons, List.length_nil, List.replicate, List.cons_append, List.nil_append, List.append_nil, List.getElem?_cons_zero, List.getElem?_cons_succ, List.set_cons_zero, List.set_cons_succ, Option.map_some, Option.bind_some, lim0, lim1, lim2, lim3, lim4, lim5, lim6, lim7, lim8, lim9, lim10, lim11, Nat.reduceAdd, Nat.reduceSub, Nat.reduceLT, Nat.reduceEqDiff, if_true, if_false, eq_self, decide_true, decide_false, Bool.false_eq_true, Bool.not_true, Bool.not_false, and_self, and_true, true_and, Nat.zero_lt_succ, Nat.lt_add_one, List.nodup_nil, List.nodup_cons, List.not_mem_nil, not_false_eq_true]
    simp only [aCons, aNil, M.bnd, M.ret] at hit
    simp only [↓hit, hit, M.bnd, M.ret, M.stk, sSeq, sRet, sRetN, sIf, sSet, sExpr, sNx, eVar, eC, eBin, eFn, endFn, argF, slotsOf, wr, wr1, outsF, aCons, aNil, eTup, datas, eCal, snaps, snap, handed, eIf, tOf, tNo, tBoth, tAny, eBoth, eAny, eNo, eNeg, eChain, eLst, lDisp, runD, startF, slotOf, Tg.put, Tg.puts, e1, sPar2, eSl, eBits, eVar, oSome, oNone, List.map_cons, List.map_nil, List.length_cons, List.length_nil, List.replicate, List.cons_append, List.nil_append, List.append_nil, List.getElem?_cons_zero, List.getElem?_cons_succ, List.set_cons_zero, List.set_cons_succ, Option.map_some, Option.bind_some, lim0, lim1, lim2, lim3, lim4, lim5, lim6, lim7, lim8, lim9, lim10, lim11, Nat.reduceAdd, Nat.reduceSub, Nat.reduceLT, Nat.reduceEqDiff, if_true, if_false, eq_self, decide_true, decide_false, Bool.false_eq_true, Bool.not_true, Bool.not_false, and_self, and_true, true_and, Nat.zero_lt_succ, Nat.lt_add_one, List.nodup_nil, List.nodup_cons, List.not_mem_nil, not_false_eq_true, e1]
    exact e2
theorem bp_zero {D : Nat} (B n : Nat) : Bp D B (List.replicate n 0) := fun x hx => by
  rw [List.eq_of_mem_replicate hx]; exact bd_zero B
theorem t_product {p q : List Rat} {D1 D2 B1 B2 : Nat} (hp : p.length ≤ 40) (hq : q.length ≤ 40) (h1 : Bp D1 B1 p) (h2 : Bp D2 B2 q) (sp : Sms p) (sq : Sms q) (hD : 0 < D1 * D2) (s1 : D1 * D2 < 2 ^ 1000) (s2 : p.length * q.length * (B1 * B2) < 2 ^ 1000) :
    ∃ r, m__law_product [.d (po p), .d (po q)] = some (.ok (po r), []) ∧ trim r = r ∧ Bp (D1 * D2) (p.length * q.length * (B1 * B2)) r ∧ r.length ≤ p.length + q.length - 1 := by
  let n := p.length + q.length - 1
  have z0 : Bp (D1 * D2) (0 * (B1 * B2)) (List.replicate n 0) := bp_zero _ n
  obtain ⟨f, x, y, z, w, e, hl, hb⟩ := prod_out (P := po p) (n := n) hD s1 (fun b hb => ⟨h2 b hb, sq b hb⟩) p 0 0 (List.replicate n 0) none none none none (fun a ha => ⟨h1 a ha, sp a ha⟩) (fun hne => by
    have : 0 < p.length := List.length_pos_iff.mpr hne
    simp only [n]; omega) (by simp) z0 (by rw [Nat.zero_add]; exact s2)
  rw [Nat.zero_add] at hb
  refine ⟨trim f, ?_, trim_trim f, hb.trim, Nat.le_trans (trim_len f) (by rw [hl]; exact Nat.le_refl _)⟩
  have e1 : fMax [.int 0, .int (((p.length : Nat) : Int) + ((q.length : Nat) : Int) - 1)] = some (.int (n : Nat)) := by
    show some (DV.int (if (((p.length : Nat) : Int) + ((q.length : Nat) : Int) - 1) > 0 then (((p.length : Nat) : Int) + ((q.length : Nat) : Int) - 1) else 0)) = _
    congr 2
    simp only [n]
    split <;> omega
  have e2 := rep0 (k := (n : Int)) ⟨by omega, by simp only [n]; omega⟩
  rw [Int.toNat_natCast] at e2
  have hit : iEn (aCons (eVar 0) aNil) [some (.d (po p)), some (.d (po q)), some (.own true ((List.replicate n (0 : Rat)).map fr)), none, none, none, none] = some (.ok (enumD 0 (p.map fr)), [some (.d (po p)), some (.d (po q)), some (.own true ((List.replicate n (0 : Rat)).map fr)), none, none, none, none]) := rfl
  have e3 := (t_trimmed (p := f) (by rw [hl]; simp only [n]; omega)).2
  simp only [aCons, aNil, M.bnd, M.ret] at hit
  simp only [m__law_product, g__law_product, sOwn, lBin, sFor, i__law_product_2, M.bnd, M.ret, M.stk, sSeq, sRet, sRetN, sIf, sSet, sExpr, sNx, eVar, eC, eBin, eFn, endFn, argF, slotsOf, wr, wr1, outsF, aCons, aNil, eTup, datas, eCal, snaps, snap, handed, eIf, tOf, tNo, tBoth, tAny, eBoth, eAny, eNo, eNeg, eChain, eLst, lDisp, runD, startF, slotOf, Tg.put, Tg.puts, e1, sPar2, eSl, eBits, eVar, oSome, oNone, List.map_cons, List.map_nil, List.length_cons, List.length_nil, List.replicate, List.cons_append, List.nil_append, List.append_nil, List.getElem?_cons_zero, List.getElem?_cons_succ, List.set_cons_zero, List.set_cons_succ, Option.map_some, Option.bind_some, lim0, lim1, lim2, lim3, lim4, lim5, lim6, lim7, lim8, lim9, lim10, lim11, Nat.reduceAdd, Nat.reduceSub, Nat.reduceLT, Nat.reduceEqDiff, if_true, if_false, eq_self, decide_true, decide_false, Bool.false_eq_true, Bool.not_true, Bool.not_false, and_self, and_true, true_and, Nat.zero_lt_succ, Nat.lt_add_one, List.nodup_nil, List.nodup_cons, List.not_mem_nil, not_false_eq_true, len_po, add_ok, sub_ok, e1, e2]
  simp only [↓hit, hit, M.bnd, M.ret, M.stk, sSeq, sRet, sRetN, sIf, sSet, sExpr, sNx, eVar, eC, eBin, eFn, endFn, argF, slotsOf, wr, wr1, outsF, aCons, aNil, eTup, datas, eCal, snaps, snap, handed, eIf, tOf, tNo, tBoth, tAny, eBoth, eAny, eNo, eNeg, eChain, eLst, lDisp, runD, startF, slotOf, Tg.put, Tg.puts, e1, sPar2, eSl, eBits, eVar, oSome, oNone, List.map_cons, List.map_nil, List.length_cons, List.length_nil, List.replicate, List.cons_append, List.nil_append, List.append_nil, List.getElem?_cons_zero, List.getElem?_cons_succ, List.set_cons_zero, List.set_cons_succ, Option.map_some, Option.bind_some, lim0, lim1, lim2, lim3, lim4, lim5, lim6, lim7, lim8, lim9, lim10, lim11, Nat.reduceAdd, Nat.reduceSub, Nat.reduceLT, Nat.reduceEqDiff, if_true, if_false, eq_self, decide_true, decide_false, Bool.false_eq_true, Bool.not_true, Bool.not_false, and_self, and_true, true_and, Nat.zero_lt_succ, Nat.lt_add_one, List.nodup_nil, List.nodup_cons, List.not_mem_nil, not_false_eq_true, e, e3]
/-! ### roots -/
theorem sm36 {q : Rat} (h : Bd 6 36 q) : Sm q := bd_sm (by decide) (by decide) (by decide) h
theorem bd_one (D : Nat) (h : 0 < D) : Bd D D 1 := ⟨D, by
  have := Rat.mkRat_mul_right (n := 1) (d := 1) (a := D) (by omega)
  rw [Int.one_mul, Nat.one_mul] at this
  rw [this]; rfl, by simp⟩
theorem bd_neg {D B : Nat} {q : Rat} (h : Bd D B q) : Bd D B (-q) := by
  obtain ⟨z, e, hz⟩ := h
  exact ⟨-z, by rw [e, Rat.neg_mkRat], by rw [Int.natAbs_neg]; exact hz⟩
theorem fr_neg (q : Rat) : DV.tup [.int (0 - q.num), .int q.den] = fr (-q) := by
  rw [Int.zero_sub]; rfl
theorem root_loop {P : DV} : ∀ (r f : List Rat) (k : Nat) (o : Option SV), Bp 6 36 r → f.length ≤ k + 1 → k + r.length ≤ 6 → Bp (6 ^ k) (512 ^ k) f → trim f = f → ∃ (f' : List Rat) (x : Option SV), forLoop (.nm 2) b__law_rooted_1 (r.map fr) [some (.d P), some (.d (po f)), o] = some (.ok .nx, [some (.d P), some (.d (po f')), x]) ∧ f'.length ≤ k + r.length + 1 ∧ Bp (6 ^ (k + r.length)) (512 ^ (k + r.length)) f' ∧ trim f' = f'
  | [], f, k, o, _, hf, hk, hb, ht => ⟨f, o, rfl, hf, hb, ht⟩
  | a :: r, f, k, o, hr, hf, hk, hb, ht => by
    have ha := hr a (List.mem_cons_self ..)
    simp at hk
    have k6 : k ≤ 6 := by omega
    have pw1 : 6 ^ k ≤ 6 ^ 6 := Nat.pow_le_pow_right (by decide) k6
    have pw2 : 512 ^ k ≤ 512 ^ 6 := Nat.pow_le_pow_right (by decide) k6
    have p0 : 0 < 6 ^ k := Nat.pow_pos (by decide)
    have hq : Bp 6 36 [-a, 1] := fun x hx => by
      simp at hx
      rcases hx with e | e
      · rw [e]; exact bd_neg ha
      · rw [e]; exact bd_mono (by decide) (bd_one 6 (by decide))
    have hs : f.length * [-a, 1].length * (512 ^ k * 36) ≤ 512 ^ (k + 1) := by
      rw [Nat.pow_succ, show [-a, 1].length = 2 from rfl]
      have : f.length * 2 * 36 ≤ 512 := by omega
      calc f.length * 2 * (512 ^ k * 36) = 512 ^ k * (f.length * 2 * 36) := by ac_rfl
        _ ≤ 512 ^ k * 512 := Nat.mul_le_mul_left _ this
    have hlt : 512 ^ (k + 1) < 2 ^ 1000 := Nat.lt_of_le_of_lt (Nat.pow_le_pow_right (by decide) (show k + 1 ≤ 7 by omega)) (by decide)
    obtain ⟨g, e1, e2, e3, e4⟩ := t_product (p := f) (q := [-a, 1]) (D1 := 6 ^ k) (D2 := 6) (B1 := 512 ^ k) (B2 := 36) (by omega) (by simp) hb hq (hb.sms p0 (Nat.lt_of_le_of_lt pw1 (by decide)) (Nat.lt_of_le_of_lt pw2 (by decide))) (hq.sms (by decide) (by decide) (by decide)) (by omega) (Nat.lt_of_le_of_lt (show 6 ^ k * 6 ≤ 6 ^ 6 * 6 by omega) (by decide)) (Nat.lt_of_le_of_lt hs hlt)
    have hg : Bp (6 ^ (k + 1)) (512 ^ (k + 1)) g := by
      rw [Nat.pow_succ 6 k]
      exact e3.mono hs
    obtain ⟨f', x, h1, h2, h3, h4⟩ := root_loop (P := P) r g (k + 1) (some (.d (fr a))) (fun z hz => hr z (List.mem_cons_of_mem _ hz)) (by simp at e4; omega) (by omega) hg e2
    refine ⟨f', x, ?_, by simp; omega, by rw [List.length_cons, show k + (r.length + 1) = k + 1 + r.length by omega]; exact h3, h4⟩
    have g0 : gIx (fr a) (.int 0) = some (.int a.num) := rfl
    have g1 : gIx (fr a) (.int 1) = some (.int a.den) := rfl
    have g2 : DV.tup [fr (-a), .tup [.int 1, .int 1]] = po [-a, 1] := rfl
    rw [List.map_cons]
    simp only [forLoop, b__law_rooted_1, M.bnd, M.ret, M.stk, sSeq, sRet, sRetN, sIf, sSet, sExpr, sNx, eVar, eC, eBin, eFn, endFn, argF, slotsOf, wr, wr1, outsF, aCons, aNil, eTup, datas, eCal, snaps, snap, handed, eIf, tOf, tNo, tBoth, tAny, eBoth, eAny, eNo, eNeg, eChain, eLst, lDisp, runD, startF, slotOf, Tg.put, Tg.puts, e1, sPar2, eSl, eBits, eVar, oSome, oNone, List.map_cons, List.map_nil, List.length_cons, List.length_nil, List.replicate, List.cons_append, List.nil_append, List.append_nil, List.getElem?_cons_zero, List.getElem?_cons_succ, List.set_cons_zero, List.set_cons_succ, Option.map_some, Option.bind_some, lim0, lim1, lim2, lim3, lim4, lim5, lim6, lim7, lim8, lim9, lim10, lim11, Nat.reduceAdd, Nat.reduceSub, Nat.reduceLT, Nat.reduceEqDiff, if_true, if_false, eq_self, decide_true, decide_false, Bool.false_eq_true, Bool.not_true, Bool.not_false, and_self, and_true, true_and, Nat.zero_lt_succ, Nat.lt_add_one, List.nodup_nil, List.nodup_cons, List.not_mem_nil, not_false_eq_true, g0, g1, sub_ok, fr_neg, g2, e1]
    exact h1
theorem t_rooted {r : List Rat} (hr : Bp 6 36 r) (hl : r.length ≤ 6) : ∃ f, m__law_rooted [.d (po r)] = some (.ok (po f), []) ∧ f.length ≤ r.length + 1 ∧ Bp (6 ^ 6) (3072 ^ 6) f ∧ trim f = f := by
  obtain ⟨f, x, h1, h2, h3, h4⟩ := root_loop (P := po r) r [1] 0 none hr (by simp) (by omega) (fun z hz => by
    simp at hz; rw [hz]; exact bd_one 1 (by decide)) (by simp [trim])
  rw [Nat.zero_add] at h2 h3
  refine ⟨f, ?_, h2, ?_, h4⟩
  · have e : DV.tup [.tup [.int 1, .int 1]] = po [1] := rfl
    have hit : iOf (eVar 0) [some (.d (po r)), some (.d (po [1])), none] = some (.ok (r.map fr), [some (.d (po r)), some (.d (po [1])), none]) := rfl
    simp only [m__law_rooted, g__law_rooted, sFor, i__law_rooted_1, M.bnd, M.ret, M.stk, sSeq, sRet, sRetN, sIf, sSet, sExpr, sNx, eVar, eC, eBin, eFn, endFn, argF, slotsOf, wr, wr1, outsF, aCons, aNil, eTup, datas, eCal, snaps, snap, handed, eIf, tOf, tNo, tBoth, tAny, eBoth, eAny, eNo, eNeg, eChain, eLst, lDisp, runD, startF, slotOf, Tg.put, Tg.puts, e1, sPar2, eSl, eBits, eVar, oSome, oNone, List.map_cons, List.map_nil, List.length_cons, List.length_nil, List.replicate, List.cons_append, List.nil_append, List.append_nil, List.getElem?_cons_zero, List.getElem?_cons_succ, List.set_cons_zero, List.set_cons_succ, Option.map_some, Option.bind_some, lim0, lim1, lim2, lim3, lim4, lim5, lim6, lim7, lim8, lim9, lim10, lim11, Nat.reduceAdd, Nat.reduceSub, Nat.reduceLT, Nat.reduceEqDiff, if_true, if_false, eq_self, decide_true, decide_false, Bool.false_eq_true, Bool.not_true, Bool.not_false, and_self, and_true, true_and, Nat.zero_lt_succ, Nat.lt_add_one, List.nodup_nil, List.nodup_cons, List.not_mem_nil, not_false_eq_true, e]
    simp only [↓hit, hit, M.bnd, M.ret, M.stk, sSeq, sRet, sRetN, sIf, sSet, sExpr, sNx, eVar, eC, eBin, eFn, endFn, argF, slotsOf, wr, wr1, outsF, aCons, aNil, eTup, datas, eCal, snaps, snap, handed, eIf, tOf, tNo, tBoth, tAny, eBoth, eAny, eNo, eNeg, eChain, eLst, lDisp, runD, startF, slotOf, Tg.put, Tg.puts, e1, sPar2, eSl, eBits, eVar, oSome, oNone, List.map_cons, List.map_nil, List.length_cons, List.length_nil, List.replicate, List.cons_append, List.nil_append, List.append_nil, List.getElem?_cons_zero, List.getElem?_cons_succ, List.set_cons_zero, List.set_cons_succ, Option.map_some, Option.bind_some, lim0, lim1, lim2, lim3, lim4, lim5, lim6, lim7, lim8, lim9, lim10, lim11, Nat.reduceAdd, Nat.reduceSub, Nat.reduceLT, Nat.reduceEqDiff, if_true, if_false, eq_self, decide_true, decide_false, Bool.false_eq_true, Bool.not_true, Bool.not_false, and_self, and_true, true_and, Nat.zero_lt_succ, Nat.lt_add_one, List.nodup_nil, List.nodup_cons, List.not_mem_nil, not_false_eq_true, h1]
  · have := h3
    have up : ∀ q, Bd (6 ^ r.length) (512 ^ r.length) q → Bd (6 ^ 6) (3072 ^ 6) q := fun q hq => by
      have u := bd_up (6 ^ (6 - r.length)) (Nat.pow_pos (by decide)) hq
      rw [← Nat.pow_add, show r.length + (6 - r.length) = 6 by omega] at u
      refine bd_mono ?_ u
      calc 512 ^ r.length * 6 ^ (6 - r.length) ≤ 512 ^ 6 * 6 ^ 6 := Nat.mul_le_mul (Nat.pow_le_pow_right (by decide) hl) (Nat.pow_le_pow_right (by decide) (by omega))
        _ = 3072 ^ 6 := by decide
    exact fun q hq => up q (h3 q hq)
/-! ### the cask -/
def Cask (l : List DV) : Prop := ∃ a b c : Int, l = [.int a, .int b, .int c] ∧ 0 ≤ a ∧ 0 ≤ b ∧ b.natAbs < 2 ^ 64
theorem lt_ok {i j : Int} : gLt (.int i) (.int j) = some (.bl (decide (i < j))) := rfl
theorem t_tap {l : Bool} {ck : List DV} {many : Nat} (h : Cask ck) (hm : 0 < many) (hm2 : many < 1000) : ∃ (t : Nat) (ck' : List DV), m__law_tap [.own l ck, .d (.int (many : Nat))] = some (.ok (.int (t : Nat)), [ck']) ∧ Cask ck' ∧ t < many := by
  obtain ⟨a, b, c, e, ha, hb, hb2⟩ := h
  subst e
  have g0 : ∀ x y z : DV, gIx (.lst [x, y, z]) (.int 0) = some x := fun _ _ _ => rfl
  have g1 : ∀ x y z : DV, gIx (.lst [x, y, z]) (.int 1) = some y := fun _ _ _ => rfl
  have g2 : ∀ x y z : DV, gIx (.lst [x, y, z]) (.int 2) = some z := fun _ _ _ => rfl
  have fi : ∀ i : Int, fInt [.int i] = some (.int i) := fun _ => rfl
  have i0 : L2.ixN 3 0 = some 0 := rfl
  have i1 : L2.ixN 3 1 = some 1 := rfl
  have hmi : (0 : Int) < (many : Int) := by omega
  by_cases z : a > 0
  · have d1 := fdiv_ok (i := a) (j := (many : Int)) ⟨hmi, by rw [Int.natAbs_natCast]; exact log_lt (Nat.lt_trans hm2 (by decide)) (by decide)⟩
    have hmod := Int.emod_nonneg a (show (many : Int) ≠ 0 by omega)
    have hlt := Int.emod_lt_of_pos a hmi
    refine ⟨(a % many).toNat, [.int (a / many), .int b, .int c], ?_, ⟨_, _, _, rfl, Int.ediv_nonneg ha (by omega), hb, hb2⟩, by omega⟩
    rw [Int.toNat_of_nonneg hmod]
    simp only [m__law_tap, g__law_tap, sPut, M.bnd, M.ret, M.stk, sSeq, sRet, sRetN, sIf, sSet, sExpr, sNx, eVar, eC, eBin, eFn, endFn, argF, slotsOf, wr, wr1, outsF, aCons, aNil, eTup, datas, eCal, snaps, snap, handed, eIf, tOf, tNo, tBoth, tAny, eBoth, eAny, eNo, eNeg, eChain, eLst, lDisp, runD, startF, slotOf, Tg.put, Tg.puts, e1, sPar2, eSl, eBits, eVar, oSome, oNone, List.map_cons, List.map_nil, List.length_cons, List.length_nil, List.replicate, List.cons_append, List.nil_append, List.append_nil, List.getElem?_cons_zero, List.getElem?_cons_succ, List.set_cons_zero, List.set_cons_succ, Option.map_some, Option.bind_some, lim0, lim1, lim2, lim3, lim4, lim5, lim6, lim7, lim8, lim9, lim10, lim11, Nat.reduceAdd, Nat.reduceSub, Nat.reduceLT, Nat.reduceEqDiff, if_true, if_false, eq_self, decide_true, decide_false, Bool.false_eq_true, Bool.not_true, Bool.not_false, and_self, and_true, true_and, Nat.zero_lt_succ, Nat.lt_add_one, List.nodup_nil, List.nodup_cons, List.not_mem_nil, not_false_eq_true, g0, gt_ok, decide_eq_true z, fi, mod_ok hmi, d1, i0]
  · have m1 := mul_ok (i := b) (j := 6364136223846793005) (by
      have := log_lt hb2 (by decide)
      have h2 : (6364136223846793005 : Int).natAbs.log2 < 100 := by decide
      omega)
    have m2 := mod_ok (i := b * 6364136223846793005 + c) (j := 9223372036854775783) (by decide)
    let b' := (b * 6364136223846793005 + c) % 9223372036854775783
    have hb0 : 0 ≤ b' := Int.emod_nonneg _ (by decide)
    have hb3 : b' < 9223372036854775783 := Int.emod_lt_of_pos _ (by decide)
    have d1 := fdiv_ok (i := b') (j := 2147483648) ⟨by decide, by decide⟩
    have hmod := Int.emod_nonneg (b' / 2147483648) (show (many : Int) ≠ 0 by omega)
    have hlt := Int.emod_lt_of_pos (b' / 2147483648) hmi
    refine ⟨(b' / 2147483648 % many).toNat, [.int a, .int b', .int c], ?_, ⟨_, _, _, rfl, ha, hb0, by omega⟩, by omega⟩
    rw [Int.toNat_of_nonneg hmod]
    simp only [m__law_tap, g__law_tap, sPut, M.bnd, M.ret, M.stk, sSeq, sRet, sRetN, sIf, sSet, sExpr, sNx, eVar, eC, eBin, eFn, endFn, argF, slotsOf, wr, wr1, outsF, aCons, aNil, eTup, datas, eCal, snaps, snap, handed, eIf, tOf, tNo, tBoth, tAny, eBoth, eAny, eNo, eNeg, eChain, eLst, lDisp, runD, startF, slotOf, Tg.put, Tg.puts, e1, sPar2, eSl, eBits, eVar, oSome, oNone, List.map_cons, List.map_nil, List.length_cons, List.length_nil, List.replicate, List.cons_append, List.nil_append, List.append_nil, List.getElem?_cons_zero, List.getElem?_cons_succ, List.set_cons_zero, List.set_cons_succ, Option.map_some, Option.bind_some, lim0, lim1, lim2, lim3, lim4, lim5, lim6, lim7, lim8, lim9, lim10, lim11, Nat.reduceAdd, Nat.reduceSub, Nat.reduceLT, Nat.reduceEqDiff, if_true, if_false, eq_self, decide_true, decide_false, Bool.false_eq_true, Bool.not_true, Bool.not_false, and_self, and_true, true_and, Nat.zero_lt_succ, Nat.lt_add_one, List.nodup_nil, List.nodup_cons, List.not_mem_nil, not_false_eq_true, g0, g1, g2, gt_ok, decide_eq_false z, fi, m1, add_ok, m2, i1]
    simp only [b'] at d1
    simp only [b', d1, M.bnd, M.ret, M.stk, sSeq, sRet, sRetN, sIf, sSet, sExpr, sNx, eVar, eC, eBin, eFn, endFn, argF, slotsOf, wr, wr1, outsF, aCons, aNil, eTup, datas, eCal, snaps, snap, handed, eIf, tOf, tNo, tBoth, tAny, eBoth, eAny, eNo, eNeg, eChain, eLst, lDisp, runD, startF, slotOf, Tg.put, Tg.puts, e1, sPar2, eSl, eBits, eVar, oSome, oNone, List.map_cons, List.map_nil, List.length_cons, List.length_nil, List.replicate, List.cons_append, List.nil_append, List.append_nil, List.getElem?_cons_zero, List.getElem?_cons_succ, List.set_cons_zero, List.set_cons_succ, Option.map_some, Option.bind_some, lim0, lim1, lim2, lim3, lim4, lim5, lim6, lim7, lim8, lim9, lim10, lim11, Nat.reduceAdd, Nat.reduceSub, Nat.reduceLT, Nat.reduceEqDiff, if_true, if_false, eq_self, decide_true, decide_false, Bool.false_eq_true, Bool.not_true, Bool.not_false, and_self, and_true, true_and, Nat.zero_lt_succ, Nat.lt_add_one, List.nodup_nil, List.nodup_cons, List.not_mem_nil, not_false_eq_true, fi, mod_ok hmi]
theorem t_one {l : Bool} {ck things : List DV} (h : Cask ck) (h1 : 0 < things.length) (h2 : things.length < 1000) : ∃ (x : DV) (ck' : List DV), m__law_one_from [.own l ck, .d (.tup things)] = some (.ok x, [ck']) ∧ Cask ck' ∧ x ∈ things := by
  obtain ⟨t, ck', e, hc, ht⟩ := t_tap (l := false) h h1 h2
  refine ⟨things[t], ck', ?_, hc, List.getElem_mem _⟩
  have e1 : fLen [.tup things] = some (.int (things.length : Nat)) := rfl
  have e2 : gIx (.tup things) (.int (t : Nat)) = some things[t] := by
    show L2.atI things (t : Int) = _
    unfold L2.atI L2.ixN
    rw [if_pos (by omega), if_pos (by omega)]
    simp [ht]
  simp only [m__law_one_from, g__law_one_from, M.bnd, M.ret, M.stk, sSeq, sRet, sRetN, sIf, sSet, sExpr, sNx, eVar, eC, eBin, eFn, endFn, argF, slotsOf, wr, wr1, outsF, aCons, aNil, eTup, datas, eCal, snaps, snap, handed, eIf, tOf, tNo, tBoth, tAny, eBoth, eAny, eNo, eNeg, eChain, eLst, lDisp, runD, startF, slotOf, Tg.put, Tg.puts, e1, sPar2, eSl, eBits, eVar, oSome, oNone, List.map_cons, List.map_nil, List.length_cons, List.length_nil, List.replicate, List.cons_append, List.nil_append, List.append_nil, List.getElem?_cons_zero, List.getElem?_cons_succ, List.set_cons_zero, List.set_cons_succ, Option.map_some, Option.bind_some, lim0, lim1, lim2, lim3, lim4, lim5, lim6, lim7, lim8, lim9, lim10, lim11, Nat.reduceAdd, Nat.reduceSub, Nat.reduceLT, Nat.reduceEqDiff, if_true, if_false, eq_self, decide_true, decide_false, Bool.false_eq_true, Bool.not_true, Bool.not_false, and_self, and_true, true_and, Nat.zero_lt_succ, Nat.lt_add_one, List.nodup_nil, List.nodup_cons, List.not_mem_nil, not_false_eq_true, e1, e, e2]
theorem t_dfrac {l : Bool} {ck : List DV} (h : Cask ck) : ∃ (q : Rat) (ck' : List DV), m__law_drawn_fraction [.own l ck] = some (.ok (fr q), [ck']) ∧ Cask ck' ∧ Bd 6 36 q := by
  obtain ⟨t, c1, e1, h1, ht⟩ := t_tap (l := false) (many := 13) h (by decide) (by decide)
  obtain ⟨x, c2, e2, h2, hx⟩ := t_one (l := false) (things := [.int 1, .int 1, .int 1, .int 2, .int 3]) h1 (by decide) (by decide)
  have : ∃ u : Nat, x = .int (u : Nat) ∧ 0 < u ∧ u ∣ 6 := by
    simp at hx
    rcases hx with e | e | e <;> subst e
    · exact ⟨1, rfl, by decide, by decide⟩
    · exact ⟨2, rfl, by decide, by decide⟩
    · exact ⟨3, rfl, by decide, by decide⟩
  obtain ⟨u, e, hu, hd⟩ := this
  subst e
  have u6 : u ≤ 6 := Nat.le_of_dvd (by decide) hd
  have e3 := t_frac (t := (t : Int) - 6) (u := u) hu (Nat.lt_of_le_of_lt u6 (by decide)) (Nat.lt_of_le_of_lt (show ((t : Int) - 6).natAbs ≤ 6 by omega) (by decide))
  refine ⟨mkRat ((t : Int) - 6) u, c2, ?_, h2, ?_⟩
  · have e1' : m__law_tap [.own false ck, .d (.int 13)] = some (.ok (.int (t : Nat)), [c1]) := e1
    simp only [m__law_drawn_fraction, g__law_drawn_fraction, M.bnd, M.ret, M.stk, sSeq, sRet, sRetN, sIf, sSet, sExpr, sNx, eVar, eC, eBin, eFn, endFn, argF, slotsOf, wr, wr1, outsF, aCons, aNil, eTup, datas, eCal, snaps, snap, handed, eIf, tOf, tNo, tBoth, tAny, eBoth, eAny, eNo, eNeg, eChain, eLst, lDisp, runD, startF, slotOf, Tg.put, Tg.puts, e1, sPar2, eSl, eBits, eVar, oSome, oNone, List.map_cons, List.map_nil, List.length_cons, List.length_nil, List.replicate, List.cons_append, List.nil_append, List.append_nil, List.getElem?_cons_zero, List.getElem?_cons_succ, List.set_cons_zero, List.set_cons_succ, Option.map_some, Option.bind_some, lim0, lim1, lim2, lim3, lim4, lim5, lim6, lim7, lim8, lim9, lim10, lim11, Nat.reduceAdd, Nat.reduceSub, Nat.reduceLT, Nat.reduceEqDiff, if_true, if_false, eq_self, decide_true, decide_false, Bool.false_eq_true, Bool.not_true, Bool.not_false, and_self, and_true, true_and, Nat.zero_lt_succ, Nat.lt_add_one, List.nodup_nil, List.nodup_cons, List.not_mem_nil, not_false_eq_true, e1', sub_ok, e2, e3]
  · obtain ⟨k, hk⟩ := hd
    have hk0 : k ≠ 0 := by rintro rfl; omega
    have hk6 : k ≤ 6 := by
      have : k ∣ 6 := ⟨u, by rw [hk, Nat.mul_comm]⟩
      exact Nat.le_of_dvd (by decide) this
    refine ⟨((t : Int) - 6) * k, by rw [hk, Rat.mkRat_mul_right hk0], ?_⟩
    rw [Int.natAbs_mul, Int.natAbs_natCast]
    exact Nat.mul_le_mul (show ((t : Int) - 6).natAbs ≤ 6 by omega) hk6
theorem t_droots {l : Bool} {ck : List DV} {many : Nat} (h : Cask ck) (hm : many ≤ 6) : ∃ (r : List Rat) (ck' : List DV), m__law_drawn_roots [.own l ck, .d (.int (many : Nat))] = some (.ok (po r), [ck']) ∧ Cask ck' ∧ Bp 6 36 r ∧ r.length = many := by
  let F (c : List DV) (o3 : Option SV) : Frm := [some (.own false c), some (.d (.int (many : Nat))), none, o3]
  obtain ⟨ys, f', k1, ⟨c1, o3, k2, k3⟩, k4, k5⟩ := lc_some (T := .nm 3) (fe := x__law_drawn_roots_1) (fun f => ∃ c o3, f = F c o3 ∧ Cask c) (fun y => ∃ q, y = fr q ∧ Bd 6 36 q) (rangeD 0 ((many : Nat) : Int).toNat) (F ck none) (fun x _ f hf => by
    obtain ⟨c, o3, e, hc⟩ := hf
    subst e
    obtain ⟨q, c2, e2, h2, hq⟩ := t_dfrac (l := false) hc
    refine ⟨F c (some (.d x)), fr q, F c2 (some (.d x)), rfl, ?_, ⟨c2, _, rfl, h2⟩, q, rfl, hq⟩
    simp only [x__law_drawn_roots_1, F, M.bnd, M.ret, M.stk, sSeq, sRet, sRetN, sIf, sSet, sExpr, sNx, eVar, eC, eBin, eFn, endFn, argF, slotsOf, wr, wr1, outsF, aCons, aNil, eTup, datas, eCal, snaps, snap, handed, eIf, tOf, tNo, tBoth, tAny, eBoth, eAny, eNo, eNeg, eChain, eLst, lDisp, runD, startF, slotOf, Tg.put, Tg.puts, e1, sPar2, eSl, eBits, eVar, oSome, oNone, List.map_cons, List.map_nil, List.length_cons, List.length_nil, List.replicate, List.cons_append, List.nil_append, List.append_nil, List.getElem?_cons_zero, List.getElem?_cons_succ, List.set_cons_zero, List.set_cons_succ, Option.map_some, Option.bind_some, lim0, lim1, lim2, lim3, lim4, lim5, lim6, lim7, lim8, lim9, lim10, lim11, Nat.reduceAdd, Nat.reduceSub, Nat.reduceLT, Nat.reduceEqDiff, if_true, if_false, eq_self, decide_true, decide_false, Bool.false_eq_true, Bool.not_true, Bool.not_false, and_self, and_true, true_and, Nat.zero_lt_succ, Nat.lt_add_one, List.nodup_nil, List.nodup_cons, List.not_mem_nil, not_false_eq_true, e2]) ⟨ck, none, rfl, h⟩
  subst k2
  have hl : -(LIM : Int) ≤ ((many : Nat) : Int) ∧ ((many : Nat) : Int) ≤ LIM := by rw [lim_int]; omega
  have hit : i__law_drawn_roots_1 (F ck none) = some (.ok (rangeD 0 ((many : Nat) : Int).toNat), F ck none) := by
    simp only [i__law_drawn_roots_1, iRg1, F, M.bnd, M.ret, M.stk, sSeq, sRet, sRetN, sIf, sSet, sExpr, sNx, eVar, eC, eBin, eFn, endFn, argF, slotsOf, wr, wr1, outsF, aCons, aNil, eTup, datas, eCal, snaps, snap, handed, eIf, tOf, tNo, tBoth, tAny, eBoth, eAny, eNo, eNeg, eChain, eLst, lDisp, runD, startF, slotOf, Tg.put, Tg.puts, e1, sPar2, eSl, eBits, eVar, oSome, oNone, List.map_cons, List.map_nil, List.length_cons, List.length_nil, List.replicate, List.cons_append, List.nil_append, List.append_nil, List.getElem?_cons_zero, List.getElem?_cons_succ, List.set_cons_zero, List.set_cons_succ, Option.map_some, Option.bind_some, lim0, lim1, lim2, lim3, lim4, lim5, lim6, lim7, lim8, lim9, lim10, lim11, Nat.reduceAdd, Nat.reduceSub, Nat.reduceLT, Nat.reduceEqDiff, if_true, if_false, eq_self, decide_true, decide_false, Bool.false_eq_true, Bool.not_true, Bool.not_false, and_self, and_true, true_and, Nat.zero_lt_succ, Nat.lt_add_one, List.nodup_nil, List.nodup_cons, List.not_mem_nil, not_false_eq_true, if_pos hl]
  have hys : ys.length = many := by rw [k4, rangeD_len, Int.toNat_natCast]
  have hcmp := comp_ok (T := .nm 3) (tt := M.ret true) hit rfl k1 (lim_of (by omega))
  have hback : backF (F ck none) (F c1 o3) (Tg.nm 3).slots = F c1 none := rfl
  rw [hback] at hcmp
  have ex : ∀ l : List DV, (∀ y ∈ l, ∃ q, y = fr q ∧ Bd 6 36 q) → ∃ r : List Rat, l = r.map fr ∧ Bp 6 36 r := fun l => by
    induction l with
    | nil => exact fun _ => ⟨[], rfl, fun q hq => by cases hq⟩
    | cons y l ih =>
      intro hy
      obtain ⟨q, e, hq⟩ := hy y (List.mem_cons_self ..)
      obtain ⟨r, er, hr⟩ := ih fun z hz => hy z (List.mem_cons_of_mem _ hz)
      refine ⟨q :: r, by rw [e, er]; rfl, fun z hz => ?_⟩
      rcases List.mem_cons.mp hz with hz | hz
      · rw [hz]; exact hq
      · exact hr z hz
  obtain ⟨r, er, hr⟩ := ex ys k5
  subst er
  rw [List.length_map] at hys
  have ft : ∀ p : List Rat, fTup [.lst (p.map fr)] = some (po p) := fun _ => rfl
  simp only [F] at hcmp
  by_cases z : (many : Int) > 1
  · obtain ⟨t, c2, e2, h2, ht⟩ := t_tap (l := false) (many := 3) k3 (by decide) (by decide)
    have e2' : m__law_tap [.own false c1, .d (.int 3)] = some (.ok (.int (t : Nat)), [c2]) := e2
    have e3 : gEq (.int (t : Nat)) (.int 0) = some (.bl ((t : Int) == 0)) := eq_ok
    by_cases w : t = 0
    · subst w
      rcases List.eq_nil_or_concat r with e | ⟨r', a, e⟩
      · subst e; simp at hys; omega
      · rw [List.concat_eq_append] at e
        subst e
        have e4 : gIx (.lst ((r' ++ [a]).map fr)) (.int (-1)) = some (fr a) := by rw [List.map_append]; exact lx_last
        have e5 : L2.ixN ((r' ++ [a]).map fr).length 0 = some 0 := by
          have h0 : 0 < ((r' ++ [a]).map fr).length := by simp
          unfold L2.ixN
          rw [if_pos (by decide), if_pos (by omega)]
          all_goals rfl
        have e6 : ((r' ++ [a]).map fr).set 0 (fr a) = ((r' ++ [a]).set 0 a).map fr := List.map_set.symm
        refine ⟨(r' ++ [a]).set 0 a, c2, ?_, h2, fun x hx => ?_, by rw [List.length_set, hys]⟩
        · have e3' : gEq (.int ((0 : Nat) : Int)) (.int 0) = some (.bl true) := rfl
          simp only [m__law_drawn_roots, g__law_drawn_roots, sOwn, sPut, ↓hcmp, hcmp, M.bnd, M.ret, M.stk, sSeq, sRet, sRetN, sIf, sSet, sExpr, sNx, eVar, eC, eBin, eFn, endFn, argF, slotsOf, wr, wr1, outsF, aCons, aNil, eTup, datas, eCal, snaps, snap, handed, eIf, tOf, tNo, tBoth, tAny, eBoth, eAny, eNo, eNeg, eChain, eLst, lDisp, runD, startF, slotOf, Tg.put, Tg.puts, e1, sPar2, eSl, eBits, eVar, oSome, oNone, List.map_cons, List.map_nil, List.length_cons, List.length_nil, List.replicate, List.cons_append, List.nil_append, List.append_nil, List.getElem?_cons_zero, List.getElem?_cons_succ, List.set_cons_zero, List.set_cons_succ, Option.map_some, Option.bind_some, lim0, lim1, lim2, lim3, lim4, lim5, lim6, lim7, lim8, lim9, lim10, lim11, Nat.reduceAdd, Nat.reduceSub, Nat.reduceLT, Nat.reduceEqDiff, if_true, if_false, eq_self, decide_true, decide_false, Bool.false_eq_true, Bool.not_true, Bool.not_false, and_self, and_true, true_and, Nat.zero_lt_succ, Nat.lt_add_one, List.nodup_nil, List.nodup_cons, List.not_mem_nil, not_false_eq_true, gt_ok, decide_eq_true z, e2', e3', e4, e5, e6, ft]
        · rcases List.mem_or_eq_of_mem_set hx with hx | hx
          · exact hr x hx
          · rw [hx]; exact hr a (by simp)
    · have e3' : ((t : Int) == 0) = false := by rw [beq_eq_false_iff_ne]; omega
      refine ⟨r, c2, ?_, h2, hr, hys⟩
      simp only [m__law_drawn_roots, g__law_drawn_roots, sOwn, sPut, ↓hcmp, hcmp, M.bnd, M.ret, M.stk, sSeq, sRet, sRetN, sIf, sSet, sExpr, sNx, eVar, eC, eBin, eFn, endFn, argF, slotsOf, wr, wr1, outsF, aCons, aNil, eTup, datas, eCal, snaps, snap, handed, eIf, tOf, tNo, tBoth, tAny, eBoth, eAny, eNo, eNeg, eChain, eLst, lDisp, runD, startF, slotOf, Tg.put, Tg.puts, e1, sPar2, eSl, eBits, eVar, oSome, oNone, List.map_cons, List.map_nil, List.length_cons, List.length_nil, List.replicate, List.cons_append, List.nil_append, List.append_nil, List.getElem?_cons_zero, List.getElem?_cons_succ, List.set_cons_zero, List.set_cons_succ, Option.map_some, Option.bind_some, lim0, lim1, lim2, lim3, lim4, lim5, lim6, lim7, lim8, lim9, lim10, lim11, Nat.reduceAdd, Nat.reduceSub, Nat.reduceLT, Nat.reduceEqDiff, if_true, if_false, eq_self, decide_true, decide_false, Bool.false_eq_true, Bool.not_true, Bool.not_false, and_self, and_true, true_and, Nat.zero_lt_succ, Nat.lt_add_one, List.nodup_nil, List.nodup_cons, List.not_mem_nil, not_false_eq_true, gt_ok, decide_eq_true z, e2', e3, e3', ft]
  · refine ⟨r, c1, ?_, k3, hr, hys⟩
    simp only [m__law_drawn_roots, g__law_drawn_roots, sOwn, sPut, ↓hcmp, hcmp, M.bnd, M.ret, M.stk, sSeq, sRet, sRetN, sIf, sSet, sExpr, sNx, eVar, eC, eBin, eFn, endFn, argF, slotsOf, wr, wr1, outsF, aCons, aNil, eTup, datas, eCal, snaps, snap, handed, eIf, tOf, tNo, tBoth, tAny, eBoth, eAny, eNo, eNeg, eChain, eLst, lDisp, runD, startF, slotOf, Tg.put, Tg.puts, e1, sPar2, eSl, eBits, eVar, oSome, oNone, List.map_cons, List.map_nil, List.length_cons, List.length_nil, List.replicate, List.cons_append, List.nil_append, List.append_nil, List.getElem?_cons_zero, List.getElem?_cons_succ, List.set_cons_zero, List.set_cons_succ, Option.map_some, Option.bind_some, lim0, lim1, lim2, lim3, lim4, lim5, lim6, lim7, lim8, lim9, lim10, lim11, Nat.reduceAdd, Nat.reduceSub, Nat.reduceLT, Nat.reduceEqDiff, if_true, if_false, eq_self, decide_true, decide_false, Bool.false_eq_true, Bool.not_true, Bool.not_false, and_self, and_true, true_and, Nat.zero_lt_succ, Nat.lt_add_one, List.nodup_nil, List.nodup_cons, List.not_mem_nil, not_false_eq_true, gt_ok, decide_eq_false z, ft]
end L50
set_option maxRecDepth 100000
set_option maxHeartbeats 1000000
namespace L50
open PySem DL
theorem frs_of {R : Rat → Prop} : ∀ l : List DV, (∀ y ∈ l, ∃ q, y = fr q ∧ R q) → ∃ r : List Rat, l = r.map fr ∧ ∀ q ∈ r, R q
  | [], _ => ⟨[], rfl, fun q hq => by cases hq⟩
  | y :: l, hy => by
    obtain ⟨q, e, hq⟩ := hy y (List.mem_cons_self ..)
    obtain ⟨r, er, hr⟩ := frs_of l fun z hz => hy z (List.mem_cons_of_mem _ hz)
    refine ⟨q :: r, by rw [e, er]; rfl, fun z hz => ?_⟩
    rcases List.mem_cons.mp hz with hz | hz
    · rw [hz]; exact hq
    · exact hr z hz
theorem one_map (p : List Rat) : p.map ((1 : Rat) * ·) = p := by
  rw [show (fun x : Rat => 1 * x) = id from funext fun x => Rat.one_mul x, List.map_id]
theorem sm1 : Sm 1 := ⟨by decide, by decide⟩
theorem t_bent {l : Bool} {ck : List DV} (h : Cask ck) : ∃ (p : List Rat) (ck' : List DV), m__law_bent [.own l ck] = some (.ok (po p), [ck']) ∧ Cask ck' ∧ Bp 36 5364 p ∧ p.length ≤ 3 := by
  obtain ⟨a, c1, e1, h1, ha⟩ := t_dfrac (l := false) h
  obtain ⟨t, c2, e2, h2, ht⟩ := t_tap (l := false) (many := 5) h1 (by decide) (by decide)
  have e2' : m__law_tap [.own false c1, .d (.int 5)] = some (.ok (.int (t : Nat)), [c2]) := e2
  obtain ⟨x, c3, e3, h3, hx⟩ := t_one (l := false) (things := [.int 1, .int 2, .int 3]) h2 (by decide) (by decide)
  have : ∃ u : Nat, x = .int (u : Nat) ∧ 0 < u ∧ u ∣ 6 := by
    simp at hx
    rcases hx with e | e | e <;> subst e
    · exact ⟨1, rfl, by decide, by decide⟩
    · exact ⟨2, rfl, by decide, by decide⟩
    · exact ⟨3, rfl, by decide, by decide⟩
  obtain ⟨u, e, hu, hd⟩ := this
  subst e
  have u6 : u ≤ 6 := Nat.le_of_dvd (by decide) hd
  have e4 := t_frac (t := 1 + (t : Int)) (u := u) hu (Nat.lt_of_le_of_lt u6 (by decide)) (Nat.lt_of_le_of_lt (show (1 + (t : Int)).natAbs ≤ 6 by omega) (by decide))
  have hh : Bd 36 180 (mkRat (1 + (t : Int)) u) := by
    obtain ⟨k, hk⟩ := hd
    have hk0 : k ≠ 0 := by rintro rfl; omega
    have hk6 : k ≤ 6 := by
      have : k ∣ 6 := ⟨u, by rw [hk, Nat.mul_comm]⟩
      exact Nat.le_of_dvd (by decide) this
    have hb : Bd 6 30 (mkRat (1 + (t : Int)) u) := by
      refine ⟨(1 + (t : Int)) * k, by rw [hk, Rat.mkRat_mul_right hk0], ?_⟩
      rw [Int.natAbs_mul, Int.natAbs_natCast]
      exact Nat.mul_le_mul (show (1 + (t : Int)).natAbs ≤ 5 by omega) hk6
    exact bd_up 6 (by decide) hb
  have hq : Bp 6 36 [-a, 1] := fun x hx => by
    simp at hx
    rcases hx with e | e
    · rw [e]; exact bd_neg ha
    · rw [e]; exact bd_mono (by decide) (bd_one 6 (by decide))
  have sq := hq.sms (by decide) (by decide) (by decide)
  obtain ⟨r, r1, r2, r3, r4⟩ := t_product (p := [-a, 1]) (q := [-a, 1]) (by simp) (by simp) hq hq sq sq (by decide) (by decide) (by simp; decide)
  have r3' : Bp 36 5184 r := r3
  have sr := r3'.sms (by decide) (by decide) (by decide)
  have sh := bd_sm (by decide) (by decide) (by decide) hh
  have e5 := t_mixed (p := r) (q := [mkRat (1 + (t : Int)) u]) (a := 1) (b := 1) (by simp at r4; omega) (by simp) sr (fun z hz => by simp at hz; rw [hz]; exact sh) sm1 sm1 (fun x hx => by rw [Rat.one_mul]; exact sr x hx) (fun x hx => by simp at hx; rw [hx, Rat.one_mul]; exact sh)
  refine ⟨trim (mixL r 1 [mkRat (1 + (t : Int)) u] 1), c3, ?_, h3, Bp.trim (D := 36) (B := 5364) ?_, ?_⟩
  · have g0 : gIx (fr a) (.int 0) = some (.int a.num) := rfl
    have g1 : gIx (fr a) (.int 1) = some (.int a.den) := rfl
    have g2 : DV.tup [fr (-a), .tup [.int 1, .int 1]] = po [-a, 1] := rfl
    have g3 : DV.tup [.int 1, .int 1] = fr 1 := rfl
    have g4 : DV.tup [fr (mkRat (1 + (t : Int)) u)] = po [mkRat (1 + (t : Int)) u] := rfl
    simp only [g3] at g2
    simp only [m__law_bent, g__law_bent, M.bnd, M.ret, M.stk, sSeq, sRet, sRetN, sIf, sSet, sExpr, sNx, eVar, eC, eBin, eFn, endFn, argF, slotsOf, wr, wr1, outsF, aCons, aNil, eTup, datas, eCal, snaps, snap, handed, eIf, tOf, tNo, tBoth, tAny, eBoth, eAny, eNo, eNeg, eChain, eLst, lDisp, runD, startF, slotOf, Tg.put, Tg.puts, e1, sPar2, eSl, eBits, eVar, oSome, oNone, List.map_cons, List.map_nil, List.length_cons, List.length_nil, List.replicate, List.cons_append, List.nil_append, List.append_nil, List.getElem?_cons_zero, List.getElem?_cons_succ, List.set_cons_zero, List.set_cons_succ, Option.map_some, Option.bind_some, lim0, lim1, lim2, lim3, lim4, lim5, lim6, lim7, lim8, lim9, lim10, lim11, Nat.reduceAdd, Nat.reduceSub, Nat.reduceLT, Nat.reduceEqDiff, if_true, if_false, eq_self, decide_true, decide_false, Bool.false_eq_true, Bool.not_true, Bool.not_false, and_self, and_true, true_and, Nat.zero_lt_succ, Nat.lt_add_one, List.nodup_nil, List.nodup_cons, List.not_mem_nil, not_false_eq_true, e1, e2', add_ok, e3, e4, g0, g1, sub_ok, fr_neg, g3, g2, r1, g4, e5]
  · unfold mixL
    rw [one_map, one_map]
    exact bp_addL (B2 := 180) (q := [mkRat (1 + (t : Int)) u]) (by decide) r3' (fun z hz => by
      have hz' : z = mkRat (1 + (t : Int)) u := by simpa using hz
      rw [hz']; exact hh)
  · refine Nat.le_trans (trim_len _) ?_
    simp [mixL, addL] at r4 ⊢
    omega
/-! ### drawn POLYs -/
def DP : Nat := 6 ^ 6 * 36 * 2
def BQ : Nat := 21 * (3072 ^ 6 * 5364) * 6
theorem bd_to {D B k D' B' : Nat} {q : Rat} (h : Bd D B q) (hk : 0 < k) (h1 : D * k = D') (h2 : B * k ≤ B') : Bd D' B' q := by
  subst h1
  exact bd_mono h2 (bd_up k hk h)
theorem mul_map (p : List Rat) (c : Rat) : p.map (· * c) = p.map (c * ·) := by
  apply List.map_congr_left
  intro x _
  exact Rat.mul_comm ..
theorem t_dpoly {l : Bool} {ck : List DV} {most : Nat} (h : Cask ck) (hm : most ≤ 6) : ∃ (p : List Rat) (ck' : List DV), m__law_drawn_poly [.own l ck, .d (.int (most : Nat))] = some (.ok (po p), [ck']) ∧ Cask ck' ∧ trim p = p ∧ Bp DP BQ p ∧ p.length ≤ most + 1 := by
  obtain ⟨way, c1, e1, h1, hw⟩ := t_tap (l := false) (many := 6) h (by decide) (by decide)
  have e1' : m__law_tap [.own false ck, .d (.int 6)] = some (.ok (.int (way : Nat)), [c1]) := e1
  obtain ⟨size, c2, e2, h2, hs⟩ := t_tap (l := false) (many := most + 1) h1 (by omega) (by omega)
  have e2' : m__law_tap [.own false c1, .d (.int ((most : Int) + 1))] = some (.ok (.int (size : Nat)), [c2]) := e2
  obtain ⟨x, c3, e3, h3, hx⟩ := t_one (l := false) (things := [fr 1, fr (-1), fr 2, fr (mkRat 1 2), fr (-3)]) h2 (by simp) (by simp)
  have : ∃ b : Rat, x = fr b ∧ Bd 2 6 b := by
    simp at hx
    rcases hx with e | e | e | e | e
    · exact ⟨_, e, 2, by decide, by decide⟩
    · exact ⟨_, e, -2, by decide, by decide⟩
    · exact ⟨_, e, 4, by decide, by decide⟩
    · exact ⟨_, e, 1, rfl, by decide⟩
    · exact ⟨_, e, -6, by decide, by decide⟩
  obtain ⟨b, e, hb⟩ := this
  subst e
  have sb : Sm b := bd_sm (by decide) (by decide) (by decide) hb
  have e3' : m__law_one_from [.own false c2, .d (.tup [.tup [.int 1, .int 1], .tup [.int (-1), .int 1], .tup [.int 2, .int 1], .tup [.int 1, .int 2], .tup [.int (-3), .int 1]])] = some (.ok (fr b), [c3]) := e3
  have szm : size ≤ most := by omega
  by_cases w0 : way = 0
  · subst w0
    let F (c : List DV) (o5 : Option SV) : Frm := [some (.own false c), some (.d (.int (most : Nat))), some (.d (.int ((0 : Nat) : Int))), some (.d (.int (size : Nat))), some (.d (fr b)), o5]
    obtain ⟨ys, f', k1, ⟨c4, o5, k2, k3⟩, k4, k5⟩ := lc_some (T := .nm 5) (fe := x__law_drawn_poly_1) (fun f => ∃ c o5, f = F c o5 ∧ Cask c) (fun y => ∃ q, y = fr q ∧ Bd 6 36 q) (rangeD 0 ((size : Int) + 1).toNat) (F c3 none) (fun x _ f hf => by
      obtain ⟨c, o5, e, hc⟩ := hf
      subst e
      obtain ⟨q, c5, e5, h5, hq⟩ := t_dfrac (l := false) hc
      refine ⟨F c (some (.d x)), fr q, F c5 (some (.d x)), rfl, ?_, ⟨c5, _, rfl, h5⟩, q, rfl, hq⟩
      simp only [x__law_drawn_poly_1, F, M.bnd, M.ret, M.stk, sSeq, sRet, sRetN, sIf, sSet, sExpr, sNx, eVar, eC, eBin, eFn, endFn, argF, slotsOf, wr, wr1, outsF, aCons, aNil, eTup, datas, eCal, snaps, snap, handed, eIf, tOf, tNo, tBoth, tAny, eBoth, eAny, eNo, eNeg, eChain, eLst, lDisp, runD, startF, slotOf, Tg.put, Tg.puts, e1, sPar2, eSl, eBits, eVar, oSome, oNone, List.map_cons, List.map_nil, List.length_cons, List.length_nil, List.replicate, List.cons_append, List.nil_append, List.append_nil, List.getElem?_cons_zero, List.getElem?_cons_succ, List.set_cons_zero, List.set_cons_succ, Option.map_some, Option.bind_some, lim0, lim1, lim2, lim3, lim4, lim5, lim6, lim7, lim8, lim9, lim10, lim11, Nat.reduceAdd, Nat.reduceSub, Nat.reduceLT, Nat.reduceEqDiff, if_true, if_false, eq_self, decide_true, decide_false, Bool.false_eq_true, Bool.not_true, Bool.not_false, and_self, and_true, true_and, Nat.zero_lt_succ, Nat.lt_add_one, List.nodup_nil, List.nodup_cons, List.not_mem_nil, not_false_eq_true, e5]) ⟨c3, none, rfl, h3⟩
    subst k2
    have hl : -(LIM : Int) ≤ ((size : Nat) : Int) + 1 ∧ ((size : Nat) : Int) + 1 ≤ LIM := by rw [lim_int]; omega
    have hit : i__law_drawn_poly_1 (F c3 none) = some (.ok (rangeD 0 ((size : Int) + 1).toNat), F c3 none) := by
      simp only [i__law_drawn_poly_1, iRg1, F, M.bnd, M.ret, M.stk, sSeq, sRet, sRetN, sIf, sSet, sExpr, sNx, eVar, eC, eBin, eFn, endFn, argF, slotsOf, wr, wr1, outsF, aCons, aNil, eTup, datas, eCal, snaps, snap, handed, eIf, tOf, tNo, tBoth, tAny, eBoth, eAny, eNo, eNeg, eChain, eLst, lDisp, runD, startF, slotOf, Tg.put, Tg.puts, e1, sPar2, eSl, eBits, eVar, oSome, oNone, List.map_cons, List.map_nil, List.length_cons, List.length_nil, List.replicate, List.cons_append, List.nil_append, List.append_nil, List.getElem?_cons_zero, List.getElem?_cons_succ, List.set_cons_zero, List.set_cons_succ, Option.map_some, Option.bind_some, lim0, lim1, lim2, lim3, lim4, lim5, lim6, lim7, lim8, lim9, lim10, lim11, Nat.reduceAdd, Nat.reduceSub, Nat.reduceLT, Nat.reduceEqDiff, if_true, if_false, eq_self, decide_true, decide_false, Bool.false_eq_true, Bool.not_true, Bool.not_false, and_self, and_true, true_and, Nat.zero_lt_succ, Nat.lt_add_one, List.nodup_nil, List.nodup_cons, List.not_mem_nil, not_false_eq_true, add_ok, if_pos hl]
    have hys : ys.length = size + 1 := by rw [k4, rangeD_len]; omega
    have hcmp := comp_ok (T := .nm 5) (tt := M.ret true) hit rfl k1 (lim_of (by omega))
    have hback : backF (F c3 none) (F c4 o5) (Tg.nm 5).slots = F c4 none := rfl
    rw [hback] at hcmp
    obtain ⟨r, er, hr⟩ := frs_of ys k5
    subst er
    rw [List.length_map] at hys
    have e6 := (t_trimmed (p := r) (by omega)).1
    unfold pl at e6
    simp only [F] at hcmp
    refine ⟨trim r, c4, ?_, k3, trim_trim r, Bp.trim fun q hq => bd_to (k := 6 ^ 5 * 72) (hr q hq) (by decide) (by decide) (by decide), Nat.le_trans (trim_len r) (by omega)⟩
    have q0 : gEq (.int ((0 : Nat) : Int)) (.int 0) = some (.bl true) := rfl
    simp only [m__law_drawn_poly, g__law_drawn_poly, ↓hcmp, hcmp, M.bnd, M.ret, M.stk, sSeq, sRet, sRetN, sIf, sSet, sExpr, sNx, eVar, eC, eBin, eFn, endFn, argF, slotsOf, wr, wr1, outsF, aCons, aNil, eTup, datas, eCal, snaps, snap, handed, eIf, tOf, tNo, tBoth, tAny, eBoth, eAny, eNo, eNeg, eChain, eLst, lDisp, runD, startF, slotOf, Tg.put, Tg.puts, e1, sPar2, eSl, eBits, eVar, oSome, oNone, List.map_cons, List.map_nil, List.length_cons, List.length_nil, List.replicate, List.cons_append, List.nil_append, List.append_nil, List.getElem?_cons_zero, List.getElem?_cons_succ, List.set_cons_zero, List.set_cons_succ, Option.map_some, Option.bind_some, lim0, lim1, lim2, lim3, lim4, lim5, lim6, lim7, lim8, lim9, lim10, lim11, Nat.reduceAdd, Nat.reduceSub, Nat.reduceLT, Nat.reduceEqDiff, if_true, if_false, eq_self, decide_true, decide_false, Bool.false_eq_true, Bool.not_true, Bool.not_false, and_self, and_true, true_and, Nat.zero_lt_succ, Nat.lt_add_one, List.nodup_nil, List.nodup_cons, List.not_mem_nil, not_false_eq_true, e1', add_ok, e2', e3', q0, e6]
  · have q0 : gEq (.int (way : Nat)) (.int 0) = some (.bl false) := by
      rw [eq_ok, show (((way : Nat) : Int) == 0) = false by rw [beq_eq_false_iff_ne]; omega]
    have up1 : ∀ {c : List DV} {p : List Rat}, True := fun {_ _} => trivial
    have last : ∀ {c4 : List DV} {p : List Rat} {D B k : Nat}, Bp D B p → Sms p → p.length ≤ size + 1 → 0 < k → D * 2 * k = DP → B * 6 * k ≤ BQ → ∃ z, m__law_scaled [.d (po p), .d (fr b)] = some (.ok (po z), []) ∧ trim z = z ∧ Bp DP BQ z ∧ z.length ≤ most + 1 := fun {c4 p D B k} hp sp hlp hk hD hB => by
      refine ⟨trim (p.map (· * b)), t_lscaled (by omega) sp sb, trim_trim _, Bp.trim fun q hq => ?_, Nat.le_trans (trim_len _) (by simp; omega)⟩
      rw [mul_map] at hq
      have := bp_map hb hp q hq
      rw [Nat.mul_comm 2 D, Nat.mul_comm 6 B] at this
      exact bd_to this hk hD hB
    by_cases w3 : way < 3 ∧ size > 1
    · have l1 : ((way : Nat) : Int) < 3 := by omega
      have l2 : ((size : Nat) : Int) > 1 := by omega
      obtain ⟨r, c4, e4, h4, hr, hrl⟩ := t_droots (l := false) (many := size - 2) h3 (by omega)
      have e4' : m__law_drawn_roots [.own false c3, .d (.int ((size : Int) - 2))] = some (.ok (po r), [c4]) := by
        rw [show ((size : Int) - 2) = ((size - 2 : Nat) : Int) by omega]; exact e4
      obtain ⟨f, e5, f1, f2, f3⟩ := t_rooted hr (by omega)
      obtain ⟨g, c5, e6, h6, g1, g2⟩ := t_bent (l := false) h4
      have sf := f2.sms (by decide) (by decide) (by decide)
      have sg := g1.sms (by decide) (by decide) (by decide)
      have hfl : f.length ≤ 7 := by omega
      have hfg : f.length * g.length ≤ 21 := Nat.mul_le_mul hfl g2
      obtain ⟨p, e7, p1, p2, p3⟩ := t_product (p := f) (q := g) (by omega) (by omega) f2 g1 sf sg (by decide) (by decide) (Nat.lt_of_le_of_lt (Nat.mul_le_mul_right _ hfg) (by decide))
      have p2' : Bp (6 ^ 6 * 36) (21 * (3072 ^ 6 * 5364)) p := p2.mono (Nat.mul_le_mul_right _ hfg)
      have sp := p2'.sms (by decide) (by decide) (by decide)
      obtain ⟨z, z1, z2, z3, z4⟩ := last (c4 := c5) (k := 1) p2' sp (by omega) (by decide) (by decide) (by decide)
      refine ⟨z, c5, ?_, h6, z2, z3, z4⟩
      simp only [m__law_drawn_poly, g__law_drawn_poly, M.bnd, M.ret, M.stk, sSeq, sRet, sRetN, sIf, sSet, sExpr, sNx, eVar, eC, eBin, eFn, endFn, argF, slotsOf, wr, wr1, outsF, aCons, aNil, eTup, datas, eCal, snaps, snap, handed, eIf, tOf, tNo, tBoth, tAny, eBoth, eAny, eNo, eNeg, eChain, eLst, lDisp, runD, startF, slotOf, Tg.put, Tg.puts, e1, sPar2, eSl, eBits, eVar, oSome, oNone, List.map_cons, List.map_nil, List.length_cons, List.length_nil, List.replicate, List.cons_append, List.nil_append, List.append_nil, List.getElem?_cons_zero, List.getElem?_cons_succ, List.set_cons_zero, List.set_cons_succ, Option.map_some, Option.bind_some, lim0, lim1, lim2, lim3, lim4, lim5, lim6, lim7, lim8, lim9, lim10, lim11, Nat.reduceAdd, Nat.reduceSub, Nat.reduceLT, Nat.reduceEqDiff, if_true, if_false, eq_self, decide_true, decide_false, Bool.false_eq_true, Bool.not_true, Bool.not_false, and_self, and_true, true_and, Nat.zero_lt_succ, Nat.lt_add_one, List.nodup_nil, List.nodup_cons, List.not_mem_nil, not_false_eq_true, e1', add_ok, e2', e3', q0, lt_ok, gt_ok, decide_eq_true l1, decide_eq_true l2, sub_ok, e4', e5, e6, e7, z1]
    · obtain ⟨r, c4, e4, h4, hr, hrl⟩ := t_droots (l := false) (many := size) h3 (by omega)
      obtain ⟨f, e5, f1, f2, f3⟩ := t_rooted hr (by omega)
      have sf := f2.sms (by decide) (by decide) (by decide)
      obtain ⟨z, z1, z2, z3, z4⟩ := last (c4 := c4) (k := 36) f2 sf (by omega) (by decide) (by decide) (by decide)
      refine ⟨z, c4, ?_, h4, z2, z3, z4⟩
      by_cases l1 : ((way : Nat) : Int) < 3
      · have l2 : ¬ ((size : Nat) : Int) > 1 := by omega
        simp only [m__law_drawn_poly, g__law_drawn_poly, M.bnd, M.ret, M.stk, sSeq, sRet, sRetN, sIf, sSet, sExpr, sNx, eVar, eC, eBin, eFn, endFn, argF, slotsOf, wr, wr1, outsF, aCons, aNil, eTup, datas, eCal, snaps, snap, handed, eIf, tOf, tNo, tBoth, tAny, eBoth, eAny, eNo, eNeg, eChain, eLst, lDisp, runD, startF, slotOf, Tg.put, Tg.puts, e1, sPar2, eSl, eBits, eVar, oSome, oNone, List.map_cons, List.map_nil, List.length_cons, List.length_nil, List.replicate, List.cons_append, List.nil_append, List.append_nil, List.getElem?_cons_zero, List.getElem?_cons_succ, List.set_cons_zero, List.set_cons_succ, Option.map_some, Option.bind_some, lim0, lim1, lim2, lim3, lim4, lim5, lim6, lim7, lim8, lim9, lim10, lim11, Nat.reduceAdd, Nat.reduceSub, Nat.reduceLT, Nat.reduceEqDiff, if_true, if_false, eq_self, decide_true, decide_false, Bool.false_eq_true, Bool.not_true, Bool.not_false, and_self, and_true, true_and, Nat.zero_lt_succ, Nat.lt_add_one, List.nodup_nil, List.nodup_cons, List.not_mem_nil, not_false_eq_true, e1', add_ok, e2', e3', q0, lt_ok, gt_ok, decide_eq_true l1, decide_eq_false l2, e4, e5, z1]
      · simp only [m__law_drawn_poly, g__law_drawn_poly, M.bnd, M.ret, M.stk, sSeq, sRet, sRetN, sIf, sSet, sExpr, sNx, eVar, eC, eBin, eFn, endFn, argF, slotsOf, wr, wr1, outsF, aCons, aNil, eTup, datas, eCal, snaps, snap, handed, eIf, tOf, tNo, tBoth, tAny, eBoth, eAny, eNo, eNeg, eChain, eLst, lDisp, runD, startF, slotOf, Tg.put, Tg.puts, e1, sPar2, eSl, eBits, eVar, oSome, oNone, List.map_cons, List.map_nil, List.length_cons, List.length_nil, List.replicate, List.cons_append, List.nil_append, List.append_nil, List.getElem?_cons_zero, List.getElem?_cons_succ, List.set_cons_zero, List.set_cons_succ, Option.map_some, Option.bind_some, lim0, lim1, lim2, lim3, lim4, lim5, lim6, lim7, lim8, lim9, lim10, lim11, Nat.reduceAdd, Nat.reduceSub, Nat.reduceLT, Nat.reduceEqDiff, if_true, if_false, eq_self, decide_true, decide_false, Bool.false_eq_true, Bool.not_true, Bool.not_false, and_self, and_true, true_and, Nat.zero_lt_succ, Nat.lt_add_one, List.nodup_nil, List.nodup_cons, List.not_mem_nil, not_false_eq_true, e1', add_ok, e2', e3', q0, lt_ok, gt_ok, decide_eq_false l1, e4, e5, z1]
end L50
set_option maxRecDepth 100000
set_option maxHeartbeats 1000000
namespace L50
open PySem DL
/-! ### MAKINGs -/
def wd (st : Bool) : Str := if st then "times" else "steps"
def mk (st : Bool) (ns : List Rat) : DV := .tup [.str (wd st), po ns]
def stepsL : List Rat → List Rat → List Rat → List Rat
  | [], f, _ => f
  | c :: ns, f, l => stepsL ns (trim (addL f (l.map (c * ·)))) (trim (riseL l))
def madeL (st : Bool) (ns p : List Rat) : List Rat := if st then trim (mulL ns p) else stepsL ns [] p
theorem add_trim (f l : List Rat) : trim (addL f (trim l)) = trim (addL f l) := trim_ext _ _ fun i => by rw [cf_addL, cf_addL, cf_trim]
theorem len_addL (p q : List Rat) : (addL p q).length = max p.length q.length := by simp [addL]
theorem len_riseL (p : List Rat) : (riseL p).length = p.length - 1 := by simp [riseL]
/-- the bounds along the steps -/
structure Stp (D B G n : Nat) (f l : List Rat) : Prop where
  hD : 0 < D
  s1 : D * 6 < 2 ^ 1000
  s2 : G + 36 * B * 8 ^ n < 2 ^ 1000
  fb : Bp (D * 6) G f
  lb : Bp D B l
  fl : f.length ≤ 8
  ll : l.length ≤ 8
theorem Stp.one {D B G n : Nat} {f l : List Rat} (h : Stp D B G n f l) : Sms f ∧ Sms l := by
  have := h.s1
  have h2 := h.s2
  have h3 : 36 * B ≤ 36 * B * 8 ^ n := Nat.le_mul_of_pos_right _ (Nat.pow_pos (by decide))
  exact ⟨h.fb.sms (by have := h.hD; omega) h.s1 (by omega), h.lb.sms h.hD (by omega) (by omega)⟩
theorem Stp.next {D B G n : Nat} {f l : List Rat} {c : Rat} (h : Stp D B G (n + 1) f l) (hc : Bd 6 36 c) : Stp D (7 * B) (G + 36 * B) n (trim (addL f (l.map (c * ·)))) (trim (riseL l)) ∧ Sms (l.map (c * ·)) := by
  have h1 := h.s1
  have h2 := h.s2
  have hm : Bp (D * 6) (36 * B) (l.map (c * ·)) := by
    have := bp_map hc h.lb
    rwa [Nat.mul_comm 6 D] at this
  have p8 : 0 < 8 ^ n := Nat.pow_pos (by decide)
  have e8 : 36 * B * 8 ^ (n + 1) = 36 * B * 8 ^ n * 8 := by rw [Nat.pow_succ]; ac_rfl
  have h3 : 36 * B ≤ 36 * B * 8 ^ n := Nat.le_mul_of_pos_right _ p8
  have e7 : 36 * (7 * B) * 8 ^ n = 36 * B * 8 ^ n * 7 := by
    rw [show 36 * (7 * B) = 36 * B * 7 by omega, Nat.mul_right_comm]
  have hD := h.hD
  refine ⟨⟨hD, h1, by omega, Bp.trim (bp_addL (by omega) h.fb hm), (bp_riseL h.lb h.ll).trim, ?_, ?_⟩, hm.sms (by omega) h1 (by omega)⟩
  · have := trim_len (addL f (l.map (c * ·)))
    have a1 := h.fl
    have a2 := h.ll
    rw [len_addL, List.length_map] at this
    omega
  · have := trim_len (riseL l)
    have a2 := h.ll
    rw [len_riseL] at this
    omega
theorem steps_bp {D : Nat} : ∀ (ns : List Rat) (B G : Nat) (f l : List Rat), Bp 6 36 ns → Stp D B G ns.length f l → Bp (D * 6) (G + 36 * B * 8 ^ ns.length) (stepsL ns f l)
  | [], B, G, f, l, _, h => h.fb.mono (Nat.le_add_right ..)
  | c :: ns, B, G, f, l, hn, h => by
    have h1 := (h.next (hn c (List.mem_cons_self ..))).1
    have := steps_bp ns (7 * B) (G + 36 * B) _ _ (fun q hq => hn q (List.mem_cons_of_mem _ hq)) h1
    refine this.mono ?_
    have e8 : 36 * B * 8 ^ (ns.length + 1) = 36 * B * 8 ^ ns.length * 8 := by rw [Nat.pow_succ]; ac_rfl
    rw [List.length_cons, e8]
    have p8 : 0 < 8 ^ ns.length := Nat.pow_pos (by decide)
    have h3 : 36 * B ≤ 36 * B * 8 ^ ns.length := Nat.le_mul_of_pos_right _ p8
    have e7 : 36 * (7 * B) * 8 ^ ns.length = 36 * B * 8 ^ ns.length * 7 := by
      rw [show 36 * (7 * B) = 36 * B * 7 by omega, Nat.mul_right_comm]
    omega
theorem steps_tr : ∀ (ns f l : List Rat), trim f = f → trim (stepsL ns f l) = stepsL ns f l
  | [], f, l, h => h
  | c :: ns, f, l, h => steps_tr ns _ _ (trim_trim _)
theorem steps_len : ∀ (ns f l : List Rat) (m : Nat), f.length ≤ m → l.length ≤ m → (stepsL ns f l).length ≤ m
  | [], f, l, m, h, _ => h
  | c :: ns, f, l, m, h, k => steps_len ns _ _ m (by
      have := trim_len (addL f (l.map (c * ·)))
      rw [len_addL, List.length_map] at this
      omega) (by
      have := trim_len (riseL l)
      rw [len_riseL] at this
      omega)
theorem mk_loop {D : Nat} {M0 P S N : DV} : ∀ (ns : List Rat) (B G : Nat) (f l : List Rat) (o4 o5 : Option SV), Bp 6 36 ns → Stp D B G ns.length f l → ∃ (l' : List Rat) (x y : Option SV), forLoop (.nm 4) b_made_by_1 (ns.map fr) [some (.d M0), some (.d P), some (.d S), some (.d N), o4, o5, some (.d (po f)), some (.d (po l))] = some (.ok .nx, [some (.d M0), some (.d P), some (.d S), some (.d N), x, y, some (.d (po (stepsL ns f l))), some (.d (po l'))])
  | [], B, G, f, l, o4, o5, _, _ => ⟨l, o4, o5, rfl⟩
  | c :: ns, B, G, f, l, o4, o5, hn, h => by
    have hc := hn c (List.mem_cons_self ..)
    obtain ⟨h1, h2⟩ := h.next hc
    have ⟨sf, sl⟩ := h.one
    obtain ⟨l', x, y, e⟩ := mk_loop (M0 := M0) (P := P) (S := S) (N := N) ns _ _ _ _ (some (.d (fr c))) o5 (fun q hq => hn q (List.mem_cons_of_mem _ hq)) h1
    refine ⟨l', x, y, ?_⟩
    have fl := h.fl
    have ll := h.ll
    have e1 := t_scaled (p := l) (c := c) (by omega) sl (sm36 hc)
    have tl := trim_len (l.map (c * ·))
    rw [List.length_map] at tl
    have e2 := t_sum_by (p := f) (q := trim (l.map (c * ·))) (by omega) (by omega) sf (fun q hq => h2 q (trim_sub _ q hq))
    rw [add_trim] at e2
    have e3 := t_rise_of (p := l) (by omega) sl
    rw [List.map_cons]
    simp only [forLoop, b_made_by_1, M.bnd, M.ret, M.stk, sSeq, sRet, sRetN, sIf, sSet, sExpr, sNx, eVar, eC, eBin, eFn, endFn, argF, slotsOf, wr, wr1, outsF, aCons, aNil, eTup, datas, eCal, snaps, snap, handed, eIf, tOf, tNo, tBoth, tAny, eBoth, eAny, eNo, eNeg, eChain, eLst, lDisp, runD, startF, slotOf, Tg.put, Tg.puts, e1, sPar2, eSl, eBits, eVar, oSome, oNone, List.map_cons, List.map_nil, List.length_cons, List.length_nil, List.replicate, List.cons_append, List.nil_append, List.append_nil, List.getElem?_cons_zero, List.getElem?_cons_succ, List.set_cons_zero, List.set_cons_succ, Option.map_some, Option.bind_some, lim0, lim1, lim2, lim3, lim4, lim5, lim6, lim7, lim8, lim9, lim10, lim11, Nat.reduceAdd, Nat.reduceSub, Nat.reduceLT, Nat.reduceEqDiff, if_true, if_false, eq_self, decide_true, decide_false, Bool.false_eq_true, Bool.not_true, Bool.not_false, and_self, and_true, true_and, Nat.zero_lt_succ, Nat.lt_add_one, List.nodup_nil, List.nodup_cons, List.not_mem_nil, not_false_eq_true, e1, e2, e3]
    exact e
theorem lmk_loop {D : Nat} {M0 P : DV} : ∀ (ns : List Rat) (B G : Nat) (f l : List Rat) (o2 o3 : Option SV), Bp 6 36 ns → Stp D B G ns.length f l → ∃ (l' : List Rat) (x y : Option SV), forLoop (.nm 2) b__law_made_1 (ns.map fr) [some (.d M0), some (.d P), o2, o3, some (.d (po f)), some (.d (po l))] = some (.ok .nx, [some (.d M0), some (.d P), x, y, some (.d (po (stepsL ns f l))), some (.d (po l'))])
  | [], B, G, f, l, o2, o3, _, _ => ⟨l, o2, o3, rfl⟩
  | c :: ns, B, G, f, l, o2, o3, hn, h => by
    have hc := hn c (List.mem_cons_self ..)
    obtain ⟨h1, h2⟩ := h.next hc
    have ⟨sf, sl⟩ := h.one
    obtain ⟨l', x, y, e⟩ := lmk_loop (M0 := M0) (P := P) ns _ _ _ _ (some (.d (fr c))) o3 (fun q hq => hn q (List.mem_cons_of_mem _ hq)) h1
    refine ⟨l', x, y, ?_⟩
    have fl := h.fl
    have ll := h.ll
    have e1 := t_mixed (p := f) (q := l) (a := 1) (b := c) (by omega) (by omega) sf sl sm1 (sm36 hc) (fun q hq => by rw [Rat.one_mul]; exact sf q hq) (fun q hq => h2 _ (List.mem_map_of_mem hq))
    unfold mixL at e1
    rw [one_map] at e1
    have e3 := t_lrise (p := l) (by omega) sl
    have g3 : DV.tup [.int 1, .int 1] = fr 1 := rfl
    rw [List.map_cons]
    simp only [forLoop, b__law_made_1, M.bnd, M.ret, M.stk, sSeq, sRet, sRetN, sIf, sSet, sExpr, sNx, eVar, eC, eBin, eFn, endFn, argF, slotsOf, wr, wr1, outsF, aCons, aNil, eTup, datas, eCal, snaps, snap, handed, eIf, tOf, tNo, tBoth, tAny, eBoth, eAny, eNo, eNeg, eChain, eLst, lDisp, runD, startF, slotOf, Tg.put, Tg.puts, e1, sPar2, eSl, eBits, eVar, oSome, oNone, List.map_cons, List.map_nil, List.length_cons, List.length_nil, List.replicate, List.cons_append, List.nil_append, List.append_nil, List.getElem?_cons_zero, List.getElem?_cons_succ, List.set_cons_zero, List.set_cons_succ, Option.map_some, Option.bind_some, lim0, lim1, lim2, lim3, lim4, lim5, lim6, lim7, lim8, lim9, lim10, lim11, Nat.reduceAdd, Nat.reduceSub, Nat.reduceLT, Nat.reduceEqDiff, if_true, if_false, eq_self, decide_true, decide_false, Bool.false_eq_true, Bool.not_true, Bool.not_false, and_self, and_true, true_and, Nat.zero_lt_succ, Nat.lt_add_one, List.nodup_nil, List.nodup_cons, List.not_mem_nil, not_false_eq_true, g3, e1, e3]
    exact e
end L50
set_option maxRecDepth 100000
set_option maxHeartbeats 1000000
namespace L50
open PySem DL
/-- what a MAKING and a POLY must keep to -/
structure Fit (ns p : List Rat) : Prop where
  nb : Bp 6 36 ns
  nl : ns.length ≤ 7
  pb : Bp (2 * DP) (4 * BQ) p
  plen : p.length ≤ 7
theorem fit_step {ns p : List Rat} (h : Fit ns p) : Stp (2 * DP) (4 * BQ) 0 ns.length [] p := by
  refine ⟨by decide, by decide, ?_, fun q hq => (by cases hq), h.pb, by simp, by have := h.plen; omega⟩
  refine Nat.lt_of_le_of_lt (Nat.add_le_add_left (Nat.mul_le_mul_left _ (Nat.pow_le_pow_right (by decide) h.nl)) _) ?_
  decide
theorem fit_sm {ns p : List Rat} (h : Fit ns p) : Sms ns ∧ Sms p := ⟨fun q hq => sm36 (h.nb q hq), (fit_step h).one.2⟩
theorem len_mulL (p q : List Rat) : (mulL p q).length = min p.length q.length := by simp [mulL]
theorem made_bp {st : Bool} {ns p : List Rat} (h : Fit ns p) : Bp (2 * DP * 6) (36 * (4 * BQ) * 8 ^ 7) (madeL st ns p) := by
  cases st with
  | true =>
    have := bp_mulL h.nb h.pb
    rw [Nat.mul_comm 6] at this
    exact (this.mono (Nat.le_mul_of_pos_right _ (by decide))).trim
  | false =>
    have := steps_bp ns _ _ [] p h.nb (fit_step h)
    refine this.mono ?_
    rw [Nat.zero_add]
    exact Nat.mul_le_mul_left _ (Nat.pow_le_pow_right (by decide) h.nl)
theorem made_tr {st : Bool} {ns p : List Rat} : trim (madeL st ns p) = madeL st ns p := by
  cases st with
  | true => exact trim_trim _
  | false => exact steps_tr ns [] p rfl
theorem made_len {st : Bool} {ns p : List Rat} {m : Nat} (h : p.length ≤ m) : (madeL st ns p).length ≤ m := by
  cases st with
  | true => exact Nat.le_trans (trim_len _) (by rw [len_mulL]; omega)
  | false => exact steps_len ns [] p m (by simp) h
theorem made_sm {st : Bool} {ns p : List Rat} (h : Fit ns p) : Sms (madeL st ns p) := (made_bp h).sms (by decide) (by decide) (by decide)
theorem seq_mk (ns : List Rat) : seqOf (po ns) = some (ns.map fr) := rfl
theorem eq_T : gEq (.str (wd true)) c_TIMES = some (.bl true) := by first | rfl | decide | kernel_rfl
theorem eq_F : gEq (.str (wd false)) c_TIMES = some (.bl false) := by first | rfl | decide | kernel_rfl
theorem eq_S (st : Bool) : gEq (.str (wd st)) (.str "times") = some (.bl st) := by cases st <;> first | rfl | decide | kernel_rfl
theorem mulL_map (ns p : List Rat) : (ns.zip p).map (fun z => fr (z.1 * z.2)) = (mulL ns p).map fr := by
  rw [mulL, List.map_map]; rfl
theorem t_made_by {st : Bool} {ns p : List Rat} (h : Fit ns p) : m_made_by [.d (mk st ns), .d (po p)] = some (.ok (po (madeL st ns p)), []) := by
  have ⟨sn, sp⟩ := fit_sm h
  have nl := h.nl
  have pl' := h.plen
  cases st with
  | true =>
    let F0 (o4 o5 : Option SV) : Frm := [some (.d (mk true ns)), some (.d (po p)), some (.d (.str (wd true))), some (.d (po ns)), o4, o5, none, none]
    have hit : i_made_by_2 (F0 none none) = some (.ok ((ns.zip p).map fun z => .tup [fr z.1, fr z.2]), F0 none none) := by
      simp only [i_made_by_2, iZp, F0, M.bnd, M.ret, M.stk, sSeq, sRet, sRetN, sIf, sSet, sExpr, sNx, eVar, eC, eBin, eFn, endFn, argF, slotsOf, wr, wr1, outsF, aCons, aNil, eTup, datas, eCal, snaps, snap, handed, eIf, tOf, tNo, tBoth, tAny, eBoth, eAny, eNo, eNeg, eChain, eLst, lDisp, runD, startF, slotOf, Tg.put, Tg.puts, e1, sPar2, eSl, eBits, eVar, oSome, oNone, List.map_cons, List.map_nil, List.length_cons, List.length_nil, List.replicate, List.cons_append, List.nil_append, List.append_nil, List.getElem?_cons_zero, List.getElem?_cons_succ, List.set_cons_zero, List.set_cons_succ, Option.map_some, Option.bind_some, lim0, lim1, lim2, lim3, lim4, lim5, lim6, lim7, lim8, lim9, lim10, lim11, Nat.reduceAdd, Nat.reduceSub, Nat.reduceLT, Nat.reduceEqDiff, if_true, if_false, eq_self, decide_true, decide_false, Bool.false_eq_true, Bool.not_true, Bool.not_false, and_self, and_true, true_and, Nat.zero_lt_succ, Nat.lt_add_one, List.nodup_nil, List.nodup_cons, List.not_mem_nil, not_false_eq_true, zip_po, M.of]
    have hcmp := comp_pure (T := .tp [.nm 4, .nm 5]) (fe := x_made_by_1) (F := fun z => fr (z.1 * z.2)) (fun z => F0 (some (.d (fr z.1))) (some (.d (fr z.2)))) hit rfl rfl (fun _ => rfl) (fun _ => rfl) (fun _ => rfl) rfl (fun z hz => by
      have z1 := sn z.1 (List.of_mem_zip hz).1
      have z2 := sp z.2 (List.of_mem_zip hz).2
      simp only [x_made_by_1, F0, M.bnd, M.ret, M.stk, sSeq, sRet, sRetN, sIf, sSet, sExpr, sNx, eVar, eC, eBin, eFn, endFn, argF, slotsOf, wr, wr1, outsF, aCons, aNil, eTup, datas, eCal, snaps, snap, handed, eIf, tOf, tNo, tBoth, tAny, eBoth, eAny, eNo, eNeg, eChain, eLst, lDisp, runD, startF, slotOf, Tg.put, Tg.puts, e1, sPar2, eSl, eBits, eVar, oSome, oNone, List.map_cons, List.map_nil, List.length_cons, List.length_nil, List.replicate, List.cons_append, List.nil_append, List.append_nil, List.getElem?_cons_zero, List.getElem?_cons_succ, List.set_cons_zero, List.set_cons_succ, Option.map_some, Option.bind_some, lim0, lim1, lim2, lim3, lim4, lim5, lim6, lim7, lim8, lim9, lim10, lim11, Nat.reduceAdd, Nat.reduceSub, Nat.reduceLT, Nat.reduceEqDiff, if_true, if_false, eq_self, decide_true, decide_false, Bool.false_eq_true, Bool.not_true, Bool.not_false, and_self, and_true, true_and, Nat.zero_lt_succ, Nat.lt_add_one, List.nodup_nil, List.nodup_cons, List.not_mem_nil, not_false_eq_true, t_times z1 z2]) (by simp; omega)
    have e5 := t_lessened (p := mulL ns p) (by rw [len_mulL]; omega)
    unfold pl at e5
    rw [mulL_map] at hcmp
    simp only [F0, mk] at hcmp
    simp only [m_made_by, g_made_by, mk, ↓hcmp, hcmp, M.bnd, M.ret, M.stk, sSeq, sRet, sRetN, sIf, sSet, sExpr, sNx, eVar, eC, eBin, eFn, endFn, argF, slotsOf, wr, wr1, outsF, aCons, aNil, eTup, datas, eCal, snaps, snap, handed, eIf, tOf, tNo, tBoth, tAny, eBoth, eAny, eNo, eNeg, eChain, eLst, lDisp, runD, startF, slotOf, Tg.put, Tg.puts, e1, sPar2, eSl, eBits, eVar, oSome, oNone, List.map_cons, List.map_nil, List.length_cons, List.length_nil, List.replicate, List.cons_append, List.nil_append, List.append_nil, List.getElem?_cons_zero, List.getElem?_cons_succ, List.set_cons_zero, List.set_cons_succ, Option.map_some, Option.bind_some, lim0, lim1, lim2, lim3, lim4, lim5, lim6, lim7, lim8, lim9, lim10, lim11, Nat.reduceAdd, Nat.reduceSub, Nat.reduceLT, Nat.reduceEqDiff, if_true, if_false, eq_self, decide_true, decide_false, Bool.false_eq_true, Bool.not_true, Bool.not_false, and_self, and_true, true_and, Nat.zero_lt_succ, Nat.lt_add_one, List.nodup_nil, List.nodup_cons, List.not_mem_nil, not_false_eq_true, eq_T, e5]
    rfl
  | false =>
    obtain ⟨l', x, y, e⟩ := mk_loop (M0 := mk false ns) (P := po p) (S := .str (wd false)) (N := po ns) ns _ _ [] p none none h.nb (fit_step h)
    have g2 : DV.tup [] = po [] := rfl
    have hit : i_made_by_1 [some (.d (mk false ns)), some (.d (po p)), some (.d (.str (wd false))), some (.d (po ns)), none, none, some (.d (po [])), some (.d (po p))] = some (.ok (ns.map fr), [some (.d (mk false ns)), some (.d (po p)), some (.d (.str (wd false))), some (.d (po ns)), none, none, some (.d (po [])), some (.d (po p))]) := rfl
    simp only [mk] at e hit
    simp only [m_made_by, g_made_by, mk, sFor, M.bnd, M.ret, M.stk, sSeq, sRet, sRetN, sIf, sSet, sExpr, sNx, eVar, eC, eBin, eFn, endFn, argF, slotsOf, wr, wr1, outsF, aCons, aNil, eTup, datas, eCal, snaps, snap, handed, eIf, tOf, tNo, tBoth, tAny, eBoth, eAny, eNo, eNeg, eChain, eLst, lDisp, runD, startF, slotOf, Tg.put, Tg.puts, e1, sPar2, eSl, eBits, eVar, oSome, oNone, List.map_cons, List.map_nil, List.length_cons, List.length_nil, List.replicate, List.cons_append, List.nil_append, List.append_nil, List.getElem?_cons_zero, List.getElem?_cons_succ, List.set_cons_zero, List.set_cons_succ, Option.map_some, Option.bind_some, lim0, lim1, lim2, lim3, lim4, lim5, lim6, lim7, lim8, lim9, lim10, lim11, Nat.reduceAdd, Nat.reduceSub, Nat.reduceLT, Nat.reduceEqDiff, if_true, if_false, eq_self, decide_true, decide_false, Bool.false_eq_true, Bool.not_true, Bool.not_false, and_self, and_true, true_and, Nat.zero_lt_succ, Nat.lt_add_one, List.nodup_nil, List.nodup_cons, List.not_mem_nil, not_false_eq_true, eq_F, g2, ↓hit, hit, e]
    rfl
theorem t_lmade {st : Bool} {ns p : List Rat} (h : Fit ns p) : m__law_made [.d (mk st ns), .d (po p)] = some (.ok (po (madeL st ns p)), []) := by
  have ⟨sn, sp⟩ := fit_sm h
  have nl := h.nl
  have pl' := h.plen
  have g0 : gIx (.tup [.str (wd st), po ns]) (.int 0) = some (.str (wd st)) := rfl
  have g1 : gIx (.tup [.str (wd st), po ns]) (.int 1) = some (po ns) := rfl
  cases st with
  | true =>
    let F0 (o2 o3 : Option SV) : Frm := [some (.d (mk true ns)), some (.d (po p)), o2, o3, none, none]
    have hit : i__law_made_2 (F0 none none) = some (.ok ((ns.zip p).map fun z => .tup [fr z.1, fr z.2]), F0 none none) := by
      simp only [i__law_made_2, iZp, F0, mk, M.bnd, M.ret, M.stk, sSeq, sRet, sRetN, sIf, sSet, sExpr, sNx, eVar, eC, eBin, eFn, endFn, argF, slotsOf, wr, wr1, outsF, aCons, aNil, eTup, datas, eCal, snaps, snap, handed, eIf, tOf, tNo, tBoth, tAny, eBoth, eAny, eNo, eNeg, eChain, eLst, lDisp, runD, startF, slotOf, Tg.put, Tg.puts, e1, sPar2, eSl, eBits, eVar, oSome, oNone, List.map_cons, List.map_nil, List.length_cons, List.length_nil, List.replicate, List.cons_append, List.nil_append, List.append_nil, List.getElem?_cons_zero, List.getElem?_cons_succ, List.set_cons_zero, List.set_cons_succ, Option.map_some, Option.bind_some, lim0, lim1, lim2, lim3, lim4, lim5, lim6, lim7, lim8, lim9, lim10, lim11, Nat.reduceAdd, Nat.reduceSub, Nat.reduceLT, Nat.reduceEqDiff, if_true, if_false, eq_self, decide_true, decide_false, Bool.false_eq_true, Bool.not_true, Bool.not_false, and_self, and_true, true_and, Nat.zero_lt_succ, Nat.lt_add_one, List.nodup_nil, List.nodup_cons, List.not_mem_nil, not_false_eq_true, g1, zip_po, M.of]
    have hcmp := comp_pure (T := .tp [.nm 2, .nm 3]) (fe := x__law_made_1) (F := fun z => fr (z.1 * z.2)) (fun z => F0 (some (.d (fr z.1))) (some (.d (fr z.2)))) hit rfl rfl (fun _ => rfl) (fun _ => rfl) (fun _ => rfl) rfl (fun z hz => by
      have z1 := sn z.1 (List.of_mem_zip hz).1
      have z2 := sp z.2 (List.of_mem_zip hz).2
      simp only [x__law_made_1, F0, M.bnd, M.ret, M.stk, sSeq, sRet, sRetN, sIf, sSet, sExpr, sNx, eVar, eC, eBin, eFn, endFn, argF, slotsOf, wr, wr1, outsF, aCons, aNil, eTup, datas, eCal, snaps, snap, handed, eIf, tOf, tNo, tBoth, tAny, eBoth, eAny, eNo, eNeg, eChain, eLst, lDisp, runD, startF, slotOf, Tg.put, Tg.puts, e1, sPar2, eSl, eBits, eVar, oSome, oNone, List.map_cons, List.map_nil, List.length_cons, List.length_nil, List.replicate, List.cons_append, List.nil_append, List.append_nil, List.getElem?_cons_zero, List.getElem?_cons_succ, List.set_cons_zero, List.set_cons_succ, Option.map_some, Option.bind_some, lim0, lim1, lim2, lim3, lim4, lim5, lim6, lim7, lim8, lim9, lim10, lim11, Nat.reduceAdd, Nat.reduceSub, Nat.reduceLT, Nat.reduceEqDiff, if_true, if_false, eq_self, decide_true, decide_false, Bool.false_eq_true, Bool.not_true, Bool.not_false, and_self, and_true, true_and, Nat.zero_lt_succ, Nat.lt_add_one, List.nodup_nil, List.nodup_cons, List.not_mem_nil, not_false_eq_true, t_lby z1 z2]) (by simp; omega)
    have e5 := (t_trimmed (p := mulL ns p) (by rw [len_mulL]; omega)).1
    unfold pl at e5
    rw [mulL_map] at hcmp
    simp only [F0, mk] at hcmp
    simp only [m__law_made, g__law_made, mk, ↓hcmp, hcmp, M.bnd, M.ret, M.stk, sSeq, sRet, sRetN, sIf, sSet, sExpr, sNx, eVar, eC, eBin, eFn, endFn, argF, slotsOf, wr, wr1, outsF, aCons, aNil, eTup, datas, eCal, snaps, snap, handed, eIf, tOf, tNo, tBoth, tAny, eBoth, eAny, eNo, eNeg, eChain, eLst, lDisp, runD, startF, slotOf, Tg.put, Tg.puts, e1, sPar2, eSl, eBits, eVar, oSome, oNone, List.map_cons, List.map_nil, List.length_cons, List.length_nil, List.replicate, List.cons_append, List.nil_append, List.append_nil, List.getElem?_cons_zero, List.getElem?_cons_succ, List.set_cons_zero, List.set_cons_succ, Option.map_some, Option.bind_some, lim0, lim1, lim2, lim3, lim4, lim5, lim6, lim7, lim8, lim9, lim10, lim11, Nat.reduceAdd, Nat.reduceSub, Nat.reduceLT, Nat.reduceEqDiff, if_true, if_false, eq_self, decide_true, decide_false, Bool.false_eq_true, Bool.not_true, Bool.not_false, and_self, and_true, true_and, Nat.zero_lt_succ, Nat.lt_add_one, List.nodup_nil, List.nodup_cons, List.not_mem_nil, not_false_eq_true, g0, eq_S, e5]
    rfl
  | false =>
    obtain ⟨l', x, y, e⟩ := lmk_loop (M0 := mk false ns) (P := po p) ns _ _ [] p none none h.nb (fit_step h)
    have g2 : DV.tup [] = po [] := rfl
    have hit : i__law_made_1 [some (.d (mk false ns)), some (.d (po p)), none, none, some (.d (po [])), some (.d (po p))] = some (.ok (ns.map fr), [some (.d (mk false ns)), some (.d (po p)), none, none, some (.d (po [])), some (.d (po p))]) := rfl
    simp only [mk] at e hit
    simp only [m__law_made, g__law_made, mk, sFor, M.bnd, M.ret, M.stk, sSeq, sRet, sRetN, sIf, sSet, sExpr, sNx, eVar, eC, eBin, eFn, endFn, argF, slotsOf, wr, wr1, outsF, aCons, aNil, eTup, datas, eCal, snaps, snap, handed, eIf, tOf, tNo, tBoth, tAny, eBoth, eAny, eNo, eNeg, eChain, eLst, lDisp, runD, startF, slotOf, Tg.put, Tg.puts, e1, sPar2, eSl, eBits, eVar, oSome, oNone, List.map_cons, List.map_nil, List.length_cons, List.length_nil, List.replicate, List.cons_append, List.nil_append, List.append_nil, List.getElem?_cons_zero, List.getElem?_cons_succ, List.set_cons_zero, List.set_cons_succ, Option.map_some, Option.bind_some, lim0, lim1, lim2, lim3, lim4, lim5, lim6, lim7, lim8, lim9, lim10, lim11, Nat.reduceAdd, Nat.reduceSub, Nat.reduceLT, Nat.reduceEqDiff, if_true, if_false, eq_self, decide_true, decide_false, Bool.false_eq_true, Bool.not_true, Bool.not_false, and_self, and_true, true_and, Nat.zero_lt_succ, Nat.lt_add_one, List.nodup_nil, List.nodup_cons, List.not_mem_nil, not_false_eq_true, g0, eq_S, g2, ↓hit, hit, e]
    rfl
/-! ### it goes along with sums; noughts make nought -/
theorem steps_add : ∀ (ns f l g m : List Rat), stepsL ns (trim (addL f g)) (trim (addL l m)) = trim (addL (stepsL ns f l) (stepsL ns g m))
  | [], f, l, g, m => rfl
  | c :: ns, f, l, g, m => by
    simp only [stepsL]
    rw [← steps_add ns]
    congr 1
    · apply trim_ext
      intro i
      simp only [cf_addL, cf_trim, cf_map]
      grind
    · apply trim_ext
      intro i
      simp only [cf_addL, cf_trim, cf_riseL]
      grind
theorem made_add (st : Bool) (ns p q : List Rat) : madeL st ns (trim (addL p q)) = trim (addL (madeL st ns p) (madeL st ns q)) := by
  cases st with
  | true =>
    apply trim_ext
    intro i
    simp only [cf_addL, cf_mulL]
    show cf ns i * cf (trim (addL p q)) i = cf (trim (mulL ns p)) i + cf (trim (mulL ns q)) i
    rw [cf_trim, cf_trim, cf_trim, cf_mulL, cf_mulL, cf_addL]
    grind
  | false => exact steps_add ns [] p [] q
theorem steps_zero : ∀ (n : Nat) (l : List Rat), stepsL (List.replicate n 0) [] l = []
  | 0, l => rfl
  | n + 1, l => by
    rw [List.replicate_succ]
    simp only [stepsL]
    rw [show trim (addL [] (l.map ((0 : Rat) * ·))) = [] from trim_nil_of _ fun i => by rw [cf_addL, cf_map, cf_nil]; grind]
    exact steps_zero n _
theorem made_zero (st : Bool) (n : Nat) (p : List Rat) : madeL st (List.replicate n 0) p = [] := by
  cases st with
  | true =>
    refine trim_nil_of _ fun i => ?_
    rw [cf_mulL]
    have : cf (List.replicate n (0 : Rat)) i = 0 := by
      unfold cf
      rw [List.getD_eq_getElem?_getD, List.getElem?_replicate]
      split <;> rfl
    rw [this]; grind
  | false => exact steps_zero n p
end L50
set_option maxRecDepth 100000
set_option maxHeartbeats 1000000
namespace L50
open PySem DL
/-! ### what is a MAKING, what is none -/
/-- both tell alike -/
def Near (m : Nat) (v : DV) (b : Bool) : Prop := m_is_making_by [.d (.int (m : Nat)), .d v] = some (.ok (.bl b), []) ∧ m__law_is_making [.d (.int (m : Nat)), .d v] = some (.ok (.bl b), [])
theorem ixt0 {a b : DV} : gIx (.tup [a, b]) (.int 0) = some a := rfl
theorem ixt1 {a b : DV} : gIx (.tup [a, b]) (.int 1) = some b := rfl
/-- no tuple -/
theorem near_no {m : Nat} {v : DV} (h1 : m_is_tuple_of [.d v, .d (.int 2), .d (.int 2)] = some (.ok (.bl false), [])) (h2 : fIsi [v, .ty "tuple"] = some (.bl false)) : Near m v false := by
  constructor
  · simp only [m_is_making_by, g_is_making_by, M.bnd, M.ret, M.stk, sSeq, sRet, sRetN, sIf, sSet, sExpr, sNx, eVar, eC, eBin, eFn, endFn, argF, slotsOf, wr, wr1, outsF, aCons, aNil, eTup, datas, eCal, snaps, snap, handed, eIf, tOf, tNo, tBoth, tAny, eBoth, eAny, eNo, eNeg, eChain, eLst, lDisp, runD, startF, slotOf, Tg.put, Tg.puts, e1, sPar2, eSl, eBits, eVar, oSome, oNone, List.map_cons, List.map_nil, List.length_cons, List.length_nil, List.replicate, List.cons_append, List.nil_append, List.append_nil, List.getElem?_cons_zero, List.getElem?_cons_succ, List.set_cons_zero, List.set_cons_succ, Option.map_some, Option.bind_some, lim0, lim1, lim2, lim3, lim4, lim5, lim6, lim7, lim8, lim9, lim10, lim11, Nat.reduceAdd, Nat.reduceSub, Nat.reduceLT, Nat.reduceEqDiff, if_true, if_false, eq_self, decide_true, decide_false, Bool.false_eq_true, Bool.not_true, Bool.not_false, and_self, and_true, true_and, Nat.zero_lt_succ, Nat.lt_add_one, List.nodup_nil, List.nodup_cons, List.not_mem_nil, not_false_eq_true, h1]
  · simp only [m__law_is_making, g__law_is_making, M.bnd, M.ret, M.stk, sSeq, sRet, sRetN, sIf, sSet, sExpr, sNx, eVar, eC, eBin, eFn, endFn, argF, slotsOf, wr, wr1, outsF, aCons, aNil, eTup, datas, eCal, snaps, snap, handed, eIf, tOf, tNo, tBoth, tAny, eBoth, eAny, eNo, eNeg, eChain, eLst, lDisp, runD, startF, slotOf, Tg.put, Tg.puts, e1, sPar2, eSl, eBits, eVar, oSome, oNone, List.map_cons, List.map_nil, List.length_cons, List.length_nil, List.replicate, List.cons_append, List.nil_append, List.append_nil, List.getElem?_cons_zero, List.getElem?_cons_succ, List.set_cons_zero, List.set_cons_succ, Option.map_some, Option.bind_some, lim0, lim1, lim2, lim3, lim4, lim5, lim6, lim7, lim8, lim9, lim10, lim11, Nat.reduceAdd, Nat.reduceSub, Nat.reduceLT, Nat.reduceEqDiff, if_true, if_false, eq_self, decide_true, decide_false, Bool.false_eq_true, Bool.not_true, Bool.not_false, and_self, and_true, true_and, Nat.zero_lt_succ, Nat.lt_add_one, List.nodup_nil, List.nodup_cons, List.not_mem_nil, not_false_eq_true, h2]
/-- a tuple of another size -/
theorem near_len {m : Nat} {ds : List DV} (h : ds.length ≠ 2) : Near m (.tup ds) false := by
  have e0 := is_tup (ds := ds) (a := 2) (b := 2)
  have e1 : (decide ((2 : Int) ≤ (ds.length : Nat)) && decide (((ds.length : Nat) : Int) ≤ 2)) = false := by
    rw [Bool.and_eq_false_iff, decide_eq_false_iff_not, decide_eq_false_iff_not]; omega
  rw [e1] at e0
  have e2 : fIsi [.tup ds, .ty "tuple"] = some (.bl true) := rfl
  have e3 : fLen [.tup ds] = some (.int (ds.length : Nat)) := rfl
  have e4 : gNe (.int (ds.length : Nat)) (.int 2) = some (.bl true) := by
    have : gNe (.int (ds.length : Nat)) (.int 2) = some (.bl (!(((ds.length : Nat) : Int) == 2))) := rfl
    rw [this, show ((((ds.length : Nat) : Int)) == 2) = false by rw [beq_eq_false_iff_ne]; omega]
    rfl
  constructor
  · simp only [m_is_making_by, g_is_making_by, M.bnd, M.ret, M.stk, sSeq, sRet, sRetN, sIf, sSet, sExpr, sNx, eVar, eC, eBin, eFn, endFn, argF, slotsOf, wr, wr1, outsF, aCons, aNil, eTup, datas, eCal, snaps, snap, handed, eIf, tOf, tNo, tBoth, tAny, eBoth, eAny, eNo, eNeg, eChain, eLst, lDisp, runD, startF, slotOf, Tg.put, Tg.puts, e1, sPar2, eSl, eBits, eVar, oSome, oNone, List.map_cons, List.map_nil, List.length_cons, List.length_nil, List.replicate, List.cons_append, List.nil_append, List.append_nil, List.getElem?_cons_zero, List.getElem?_cons_succ, List.set_cons_zero, List.set_cons_succ, Option.map_some, Option.bind_some, lim0, lim1, lim2, lim3, lim4, lim5, lim6, lim7, lim8, lim9, lim10, lim11, Nat.reduceAdd, Nat.reduceSub, Nat.reduceLT, Nat.reduceEqDiff, if_true, if_false, eq_self, decide_true, decide_false, Bool.false_eq_true, Bool.not_true, Bool.not_false, and_self, and_true, true_and, Nat.zero_lt_succ, Nat.lt_add_one, List.nodup_nil, List.nodup_cons, List.not_mem_nil, not_false_eq_true, e0]
  · simp only [m__law_is_making, g__law_is_making, M.bnd, M.ret, M.stk, sSeq, sRet, sRetN, sIf, sSet, sExpr, sNx, eVar, eC, eBin, eFn, endFn, argF, slotsOf, wr, wr1, outsF, aCons, aNil, eTup, datas, eCal, snaps, snap, handed, eIf, tOf, tNo, tBoth, tAny, eBoth, eAny, eNo, eNeg, eChain, eLst, lDisp, runD, startF, slotOf, Tg.put, Tg.puts, e1, sPar2, eSl, eBits, eVar, oSome, oNone, List.map_cons, List.map_nil, List.length_cons, List.length_nil, List.replicate, List.cons_append, List.nil_append, List.append_nil, List.getElem?_cons_zero, List.getElem?_cons_succ, List.set_cons_zero, List.set_cons_succ, Option.map_some, Option.bind_some, lim0, lim1, lim2, lim3, lim4, lim5, lim6, lim7, lim8, lim9, lim10, lim11, Nat.reduceAdd, Nat.reduceSub, Nat.reduceLT, Nat.reduceEqDiff, if_true, if_false, eq_self, decide_true, decide_false, Bool.false_eq_true, Bool.not_true, Bool.not_false, and_self, and_true, true_and, Nat.zero_lt_succ, Nat.lt_add_one, List.nodup_nil, List.nodup_cons, List.not_mem_nil, not_false_eq_true, e2, e3, e4]
theorem tup2 (a b : DV) : m_is_tuple_of [.d (.tup [a, b]), .d (.int 2), .d (.int 2)] = some (.ok (.bl true), []) := rfl
theorem ne22 : gNe (.int 2) (.int 2) = some (.bl false) := rfl
theorem len2 (a b : DV) : fLen [.tup [a, b]] = some (.int 2) := rfl
theorem isT (ds : List DV) : fIsi [.tup ds, .ty "tuple"] = some (.bl true) := rfl
/-- the first is no text -/
theorem near_word {m : Nat} {a b : DV} (h : fIsi [a, .ty "str"] = some (.bl false)) : Near m (.tup [a, b]) false := by
  constructor
  · simp only [m_is_making_by, g_is_making_by, M.bnd, M.ret, M.stk, sSeq, sRet, sRetN, sIf, sSet, sExpr, sNx, eVar, eC, eBin, eFn, endFn, argF, slotsOf, wr, wr1, outsF, aCons, aNil, eTup, datas, eCal, snaps, snap, handed, eIf, tOf, tNo, tBoth, tAny, eBoth, eAny, eNo, eNeg, eChain, eLst, lDisp, runD, startF, slotOf, Tg.put, Tg.puts, e1, sPar2, eSl, eBits, eVar, oSome, oNone, List.map_cons, List.map_nil, List.length_cons, List.length_nil, List.replicate, List.cons_append, List.nil_append, List.append_nil, List.getElem?_cons_zero, List.getElem?_cons_succ, List.set_cons_zero, List.set_cons_succ, Option.map_some, Option.bind_some, lim0, lim1, lim2, lim3, lim4, lim5, lim6, lim7, lim8, lim9, lim10, lim11, Nat.reduceAdd, Nat.reduceSub, Nat.reduceLT, Nat.reduceEqDiff, if_true, if_false, eq_self, decide_true, decide_false, Bool.false_eq_true, Bool.not_true, Bool.not_false, and_self, and_true, true_and, Nat.zero_lt_succ, Nat.lt_add_one, List.nodup_nil, List.nodup_cons, List.not_mem_nil, not_false_eq_true, tup2, ixt0, h]
  · simp only [m__law_is_making, g__law_is_making, M.bnd, M.ret, M.stk, sSeq, sRet, sRetN, sIf, sSet, sExpr, sNx, eVar, eC, eBin, eFn, endFn, argF, slotsOf, wr, wr1, outsF, aCons, aNil, eTup, datas, eCal, snaps, snap, handed, eIf, tOf, tNo, tBoth, tAny, eBoth, eAny, eNo, eNeg, eChain, eLst, lDisp, runD, startF, slotOf, Tg.put, Tg.puts, e1, sPar2, eSl, eBits, eVar, oSome, oNone, List.map_cons, List.map_nil, List.length_cons, List.length_nil, List.replicate, List.cons_append, List.nil_append, List.append_nil, List.getElem?_cons_zero, List.getElem?_cons_succ, List.set_cons_zero, List.set_cons_succ, Option.map_some, Option.bind_some, lim0, lim1, lim2, lim3, lim4, lim5, lim6, lim7, lim8, lim9, lim10, lim11, Nat.reduceAdd, Nat.reduceSub, Nat.reduceLT, Nat.reduceEqDiff, if_true, if_false, eq_self, decide_true, decide_false, Bool.false_eq_true, Bool.not_true, Bool.not_false, and_self, and_true, true_and, Nat.zero_lt_succ, Nat.lt_add_one, List.nodup_nil, List.nodup_cons, List.not_mem_nil, not_false_eq_true, isT, len2, ne22, ixt0, h]
theorem isS (s : Str) : fIsi [.str s, .ty "str"] = some (.bl true) := rfl
/-- another text -/
theorem near_text {m : Nat} {s : Str} {b : DV} (h1 : gIn true (.str s) (.tup [c_TIMES, c_STEPS]) = some (.bl true)) (h2 : gIn true (.str s) (.tup [.str "times", .str "steps"]) = some (.bl true)) : Near m (.tup [.str s, b]) false := by
  constructor
  · simp only [m_is_making_by, g_is_making_by, M.bnd, M.ret, M.stk, sSeq, sRet, sRetN, sIf, sSet, sExpr, sNx, eVar, eC, eBin, eFn, endFn, argF, slotsOf, wr, wr1, outsF, aCons, aNil, eTup, datas, eCal, snaps, snap, handed, eIf, tOf, tNo, tBoth, tAny, eBoth, eAny, eNo, eNeg, eChain, eLst, lDisp, runD, startF, slotOf, Tg.put, Tg.puts, e1, sPar2, eSl, eBits, eVar, oSome, oNone, List.map_cons, List.map_nil, List.length_cons, List.length_nil, List.replicate, List.cons_append, List.nil_append, List.append_nil, List.getElem?_cons_zero, List.getElem?_cons_succ, List.set_cons_zero, List.set_cons_succ, Option.map_some, Option.bind_some, lim0, lim1, lim2, lim3, lim4, lim5, lim6, lim7, lim8, lim9, lim10, lim11, Nat.reduceAdd, Nat.reduceSub, Nat.reduceLT, Nat.reduceEqDiff, if_true, if_false, eq_self, decide_true, decide_false, Bool.false_eq_true, Bool.not_true, Bool.not_false, and_self, and_true, true_and, Nat.zero_lt_succ, Nat.lt_add_one, List.nodup_nil, List.nodup_cons, List.not_mem_nil, not_false_eq_true, tup2, ixt0, isS, h1]
  · simp only [m__law_is_making, g__law_is_making, M.bnd, M.ret, M.stk, sSeq, sRet, sRetN, sIf, sSet, sExpr, sNx, eVar, eC, eBin, eFn, endFn, argF, slotsOf, wr, wr1, outsF, aCons, aNil, eTup, datas, eCal, snaps, snap, handed, eIf, tOf, tNo, tBoth, tAny, eBoth, eAny, eNo, eNeg, eChain, eLst, lDisp, runD, startF, slotOf, Tg.put, Tg.puts, e1, sPar2, eSl, eBits, eVar, oSome, oNone, List.map_cons, List.map_nil, List.length_cons, List.length_nil, List.replicate, List.cons_append, List.nil_append, List.append_nil, List.getElem?_cons_zero, List.getElem?_cons_succ, List.set_cons_zero, List.set_cons_succ, Option.map_some, Option.bind_some, lim0, lim1, lim2, lim3, lim4, lim5, lim6, lim7, lim8, lim9, lim10, lim11, Nat.reduceAdd, Nat.reduceSub, Nat.reduceLT, Nat.reduceEqDiff, if_true, if_false, eq_self, decide_true, decide_false, Bool.false_eq_true, Bool.not_true, Bool.not_false, and_self, and_true, true_and, Nat.zero_lt_succ, Nat.lt_add_one, List.nodup_nil, List.nodup_cons, List.not_mem_nil, not_false_eq_true, isT, len2, ne22, ixt0, isS, h2]
theorem in_T (st : Bool) : gIn true (.str (wd st)) (.tup [c_TIMES, c_STEPS]) = some (.bl false) := by cases st <;> first | rfl | decide | kernel_rfl
theorem in_L (st : Bool) : gIn true (.str (wd st)) (.tup [.str "times", .str "steps"]) = some (.bl false) := by cases st <;> first | rfl | decide | kernel_rfl
/-- the numbers are no tuple -/
theorem near_nums {m : Nat} {st : Bool} {b : DV} (h1 : m_are_fractions [.d b, .d (.int ((m : Int) + 1)), .d (.int ((m : Int) + 1))] = some (.ok (.bl false), [])) (h2 : fIsi [b, .ty "tuple"] = some (.bl false)) : Near m (.tup [.str (wd st), b]) false := by
  constructor
  · simp only [m_is_making_by, g_is_making_by, M.bnd, M.ret, M.stk, sSeq, sRet, sRetN, sIf, sSet, sExpr, sNx, eVar, eC, eBin, eFn, endFn, argF, slotsOf, wr, wr1, outsF, aCons, aNil, eTup, datas, eCal, snaps, snap, handed, eIf, tOf, tNo, tBoth, tAny, eBoth, eAny, eNo, eNeg, eChain, eLst, lDisp, runD, startF, slotOf, Tg.put, Tg.puts, e1, sPar2, eSl, eBits, eVar, oSome, oNone, List.map_cons, List.map_nil, List.length_cons, List.length_nil, List.replicate, List.cons_append, List.nil_append, List.append_nil, List.getElem?_cons_zero, List.getElem?_cons_succ, List.set_cons_zero, List.set_cons_succ, Option.map_some, Option.bind_some, lim0, lim1, lim2, lim3, lim4, lim5, lim6, lim7, lim8, lim9, lim10, lim11, Nat.reduceAdd, Nat.reduceSub, Nat.reduceLT, Nat.reduceEqDiff, if_true, if_false, eq_self, decide_true, decide_false, Bool.false_eq_true, Bool.not_true, Bool.not_false, and_self, and_true, true_and, Nat.zero_lt_succ, Nat.lt_add_one, List.nodup_nil, List.nodup_cons, List.not_mem_nil, not_false_eq_true, tup2, ixt0, ixt1, isS, in_T, add_ok, h1]
  · simp only [m__law_is_making, g__law_is_making, M.bnd, M.ret, M.stk, sSeq, sRet, sRetN, sIf, sSet, sExpr, sNx, eVar, eC, eBin, eFn, endFn, argF, slotsOf, wr, wr1, outsF, aCons, aNil, eTup, datas, eCal, snaps, snap, handed, eIf, tOf, tNo, tBoth, tAny, eBoth, eAny, eNo, eNeg, eChain, eLst, lDisp, runD, startF, slotOf, Tg.put, Tg.puts, e1, sPar2, eSl, eBits, eVar, oSome, oNone, List.map_cons, List.map_nil, List.length_cons, List.length_nil, List.replicate, List.cons_append, List.nil_append, List.append_nil, List.getElem?_cons_zero, List.getElem?_cons_succ, List.set_cons_zero, List.set_cons_succ, Option.map_some, Option.bind_some, lim0, lim1, lim2, lim3, lim4, lim5, lim6, lim7, lim8, lim9, lim10, lim11, Nat.reduceAdd, Nat.reduceSub, Nat.reduceLT, Nat.reduceEqDiff, if_true, if_false, eq_self, decide_true, decide_false, Bool.false_eq_true, Bool.not_true, Bool.not_false, and_self, and_true, true_and, Nat.zero_lt_succ, Nat.lt_add_one, List.nodup_nil, List.nodup_cons, List.not_mem_nil, not_false_eq_true, isT, len2, ne22, ixt0, ixt1, isS, in_L, h2]
/-- the list of the bad ones -/
theorem bad_loop {f : DV → Bool} {a b : DV} : ∀ (ds : List DV) (o : Option SV), (∀ d ∈ ds, FrB d (f d)) → ∃ ys o', lcLoop (.nm 2) q__law_is_making_1 x__law_is_making_1 ds [some (.d a), some (.d b), o] = some (ys, [some (.d a), some (.d b), o']) ∧ ys.length ≤ ds.length ∧ (ys = List.replicate ys.length (.int 1)) ∧ (ys = [] ↔ ds.all f = true)
  | [], o, _ => ⟨[], o, rfl, by simp, rfl, by simp⟩
  | d :: ds, o, h => by
    have hd := (h d (List.mem_cons_self ..)).2
    obtain ⟨ys, o', e, h1, h2, h3⟩ := bad_loop (a := a) (b := b) ds (some (.d d)) (fun x hx => h x (List.mem_cons_of_mem _ hx))
    have ht : q__law_is_making_1 [some (.d a), some (.d b), some (.d d)] = some (.ok (!f d), [some (.d a), some (.d b), some (.d d)]) := by
      simp only [q__law_is_making_1, M.bnd, M.ret, M.stk, sSeq, sRet, sRetN, sIf, sSet, sExpr, sNx, eVar, eC, eBin, eFn, endFn, argF, slotsOf, wr, wr1, outsF, aCons, aNil, eTup, datas, eCal, snaps, snap, handed, eIf, tOf, tNo, tBoth, tAny, eBoth, eAny, eNo, eNeg, eChain, eLst, lDisp, runD, startF, slotOf, Tg.put, Tg.puts, e1, sPar2, eSl, eBits, eVar, oSome, oNone, List.map_cons, List.map_nil, List.length_cons, List.length_nil, List.replicate, List.cons_append, List.nil_append, List.append_nil, List.getElem?_cons_zero, List.getElem?_cons_succ, List.set_cons_zero, List.set_cons_succ, Option.map_some, Option.bind_some, lim0, lim1, lim2, lim3, lim4, lim5, lim6, lim7, lim8, lim9, lim10, lim11, Nat.reduceAdd, Nat.reduceSub, Nat.reduceLT, Nat.reduceEqDiff, if_true, if_false, eq_self, decide_true, decide_false, Bool.false_eq_true, Bool.not_true, Bool.not_false, and_self, and_true, true_and, Nat.zero_lt_succ, Nat.lt_add_one, List.nodup_nil, List.nodup_cons, List.not_mem_nil, not_false_eq_true, hd]
    have hx : x__law_is_making_1 [some (.d a), some (.d b), some (.d d)] = some (.ok (.d (.int 1)), [some (.d a), some (.d b), some (.d d)]) := rfl
    have hput : Tg.put (.nm 2) d (wipeF [some (.d a), some (.d b), o] (Tg.slots (.nm 2))) = some [some (.d a), some (.d b), some (.d d)] := rfl
    cases hf : f d with
    | true =>
      rw [hf] at ht
      refine ⟨ys, o', ?_, by simp; omega, h2, by simp [hf, h3]⟩
      rw [lcLoop, hput]
      simp only [ht, Bool.not_true]
      exact e
    | false =>
      rw [hf] at ht
      refine ⟨.int 1 :: ys, o', ?_, by simp; omega, by rw [List.length_cons, List.replicate_succ, ← h2], by simp [hf]⟩
      rw [lcLoop, hput]
      simp only [ht, Bool.not_false, hx, e, Option.map_some]
theorem ones_nil (n : Nat) (h : n ≤ 50) : gEq (.lst (List.replicate n (.int 1))) (.lst []) = some (.bl (decide (n = 0))) := by
  cases n with
  | zero => rfl
  | succ n =>
    have hp : ∀ k : Nat, DV.pys (List.replicate k (.int 1)) = some (List.replicate k (.int 1)) := fun k => by
      induction k with
      | zero => rfl
      | succ k ih => rw [List.replicate_succ]; simp only [DV.pys, DV.py, ih]; rfl
    have h1 : ∀ k : Nat, PyData.canLayAll0 (List.replicate k (.int 1)) = true := fun k => by
      induction k with
      | zero => rfl
      | succ k ih => rw [List.replicate_succ]; simp only [PyData.canLayAll0, ih]; rfl
    have h2 : ∀ k : Nat, PyData.depthAll (List.replicate k (.int 1)) ≤ 10 := fun k => by
      induction k with
      | zero => decide
      | succ k ih =>
        rw [List.replicate_succ]
        simp only [PyData.depthAll]
        have : PyData.depth (.int 1) ≤ 10 := by simp [PyData.depth]
        omega
    have h3 : SeqAt.shaped (.list (List.replicate (n + 1) (.int 1))) = true := by
      have h4 : PyData.depth (.list (List.replicate (n + 1) (.int 1))) ≤ 64 := by
        have := h2 (n + 1)
        rw [PyData.depth]; omega
      show (PyData.canLayAll0 (List.replicate (n + 1) (.int 1)) && decide (PyData.depth (.list (List.replicate (n + 1) (.int 1))) ≤ 64)) = true
      rw [h1, decide_eq_true h4]; rfl
    rw [show decide (n + 1 = 0) = false by simp]
    have hp2 : DV.py (.lst (.int 1 :: List.replicate n (.int 1))) = some (.list (List.replicate (n + 1) (.int 1))) := by
      rw [← List.replicate_succ]; simp only [DV.py, hp, Option.map_some]
    exact eq_nil hp2 h3
/-- the word is right -/
theorem near_tup {m : Nat} {st : Bool} {ds : List DV} {f : DV → Bool} (hl : ds.length ≤ 50) (hd : ∀ d ∈ ds, FrB d (f d)) : Near m (.tup [.str (wd st), .tup ds]) (decide (ds.length = m + 1) && ds.all f) := by
  constructor
  · have e := t_are (a := m + 1) (b := m + 1) (by omega) hd
    have e' : m_are_fractions [.d (.tup ds), .d (.int ((m : Int) + 1)), .d (.int ((m : Int) + 1))] = some (.ok (.bl (decide (m + 1 ≤ ds.length ∧ ds.length ≤ m + 1) && ds.all f)), []) := e
    simp only [m_is_making_by, g_is_making_by, M.bnd, M.ret, M.stk, sSeq, sRet, sRetN, sIf, sSet, sExpr, sNx, eVar, eC, eBin, eFn, endFn, argF, slotsOf, wr, wr1, outsF, aCons, aNil, eTup, datas, eCal, snaps, snap, handed, eIf, tOf, tNo, tBoth, tAny, eBoth, eAny, eNo, eNeg, eChain, eLst, lDisp, runD, startF, slotOf, Tg.put, Tg.puts, e1, sPar2, eSl, eBits, eVar, oSome, oNone, List.map_cons, List.map_nil, List.length_cons, List.length_nil, List.replicate, List.cons_append, List.nil_append, List.append_nil, List.getElem?_cons_zero, List.getElem?_cons_succ, List.set_cons_zero, List.set_cons_succ, Option.map_some, Option.bind_some, lim0, lim1, lim2, lim3, lim4, lim5, lim6, lim7, lim8, lim9, lim10, lim11, Nat.reduceAdd, Nat.reduceSub, Nat.reduceLT, Nat.reduceEqDiff, if_true, if_false, eq_self, decide_true, decide_false, Bool.false_eq_true, Bool.not_true, Bool.not_false, and_self, and_true, true_and, Nat.zero_lt_succ, Nat.lt_add_one, List.nodup_nil, List.nodup_cons, List.not_mem_nil, not_false_eq_true, tup2, ixt0, ixt1, isS, in_T, add_ok, e']
    have : decide (m + 1 ≤ ds.length ∧ ds.length ≤ m + 1) = decide (ds.length = m + 1) := by
      by_cases z : ds.length = m + 1
      · simp [z]
      · rw [decide_eq_false z, decide_eq_false (by omega)]
    rw [this]
  · obtain ⟨ys, o', k1, k2, k3, k4⟩ := bad_loop (a := .int (m : Nat)) (b := .tup [.str (wd st), .tup ds]) ds none hd
    have hit : i__law_is_making_1 [some (.d (.int (m : Nat))), some (.d (.tup [.str (wd st), .tup ds])), none] = some (.ok ds, [some (.d (.int (m : Nat))), some (.d (.tup [.str (wd st), .tup ds])), none]) := rfl
    have hcmp := comp_ok (T := .nm 2) (tt := q__law_is_making_1) hit rfl k1 (lim_of (by omega))
    have hb : backF [some (.d (.int (m : Nat))), some (.d (.tup [.str (wd st), .tup ds])), none] [some (.d (.int (m : Nat))), some (.d (.tup [.str (wd st), .tup ds])), o'] (Tg.nm 2).slots = [some (.d (.int (m : Nat))), some (.d (.tup [.str (wd st), .tup ds])), none] := rfl
    rw [hb] at hcmp
    have e2 : fLen [.tup ds] = some (.int (ds.length : Nat)) := rfl
    have e3 : gEq (.int (ds.length : Nat)) (.int ((m : Int) + 1)) = some (.bl (decide (ds.length = m + 1))) := by
      rw [eq_ok]
      congr 2
      by_cases z : ds.length = m + 1
      · simp [z]
      · rw [decide_eq_false z, beq_eq_false_iff_ne]; omega
    have e4 : gEq (.lst ys) (.lst []) = some (.bl (ds.all f)) := by
      rw [k3, ones_nil _ (by omega)]
      congr 2
      cases hf : ds.all f with
      | true => simp [k4.mpr hf]
      | false =>
        have : ys ≠ [] := fun z => by rw [k4.mp z] at hf; cases hf
        simp [this]
    simp only [m__law_is_making, g__law_is_making, M.bnd, M.ret, M.stk, sSeq, sRet, sRetN, sIf, sSet, sExpr, sNx, eVar, eC, eBin, eFn, endFn, argF, slotsOf, wr, wr1, outsF, aCons, aNil, eTup, datas, eCal, snaps, snap, handed, eIf, tOf, tNo, tBoth, tAny, eBoth, eAny, eNo, eNeg, eChain, eLst, lDisp, runD, startF, slotOf, Tg.put, Tg.puts, e1, sPar2, eSl, eBits, eVar, oSome, oNone, List.map_cons, List.map_nil, List.length_cons, List.length_nil, List.replicate, List.cons_append, List.nil_append, List.append_nil, List.getElem?_cons_zero, List.getElem?_cons_succ, List.set_cons_zero, List.set_cons_succ, Option.map_some, Option.bind_some, lim0, lim1, lim2, lim3, lim4, lim5, lim6, lim7, lim8, lim9, lim10, lim11, Nat.reduceAdd, Nat.reduceSub, Nat.reduceLT, Nat.reduceEqDiff, if_true, if_false, eq_self, decide_true, decide_false, Bool.false_eq_true, Bool.not_true, Bool.not_false, and_self, and_true, true_and, Nat.zero_lt_succ, Nat.lt_add_one, List.nodup_nil, List.nodup_cons, List.not_mem_nil, not_false_eq_true, isT, len2, ne22, ixt0, ixt1, isS, in_L, add_ok, e2, e3, ↓hcmp, hcmp, e4]
    by_cases z : ds.length = m + 1
    · rw [decide_eq_true z]
      simp only [M.bnd, M.ret, M.stk, sSeq, sRet, sRetN, sIf, sSet, sExpr, sNx, eVar, eC, eBin, eFn, endFn, argF, slotsOf, wr, wr1, outsF, aCons, aNil, eTup, datas, eCal, snaps, snap, handed, eIf, tOf, tNo, tBoth, tAny, eBoth, eAny, eNo, eNeg, eChain, eLst, lDisp, runD, startF, slotOf, Tg.put, Tg.puts, e1, sPar2, eSl, eBits, eVar, oSome, oNone, List.map_cons, List.map_nil, List.length_cons, List.length_nil, List.replicate, List.cons_append, List.nil_append, List.append_nil, List.getElem?_cons_zero, List.getElem?_cons_succ, List.set_cons_zero, List.set_cons_succ, Option.map_some, Option.bind_some, lim0, lim1, lim2, lim3, lim4, lim5, lim6, lim7, lim8, lim9, lim10, lim11, Nat.reduceAdd, Nat.reduceSub, Nat.reduceLT, Nat.reduceEqDiff, if_true, if_false, eq_self, decide_true, decide_false, Bool.false_eq_true, Bool.not_true, Bool.not_false, and_self, and_true, true_and, Nat.zero_lt_succ, Nat.lt_add_one, List.nodup_nil, List.nodup_cons, List.not_mem_nil, not_false_eq_true, add_ok, ↓hcmp, hcmp, e4, Bool.true_and]
    · rw [decide_eq_false z]
      simp only [M.bnd, M.ret, M.stk, sSeq, sRet, sRetN, sIf, sSet, sExpr, sNx, eVar, eC, eBin, eFn, endFn, argF, slotsOf, wr, wr1, outsF, aCons, aNil, eTup, datas, eCal, snaps, snap, handed, eIf, tOf, tNo, tBoth, tAny, eBoth, eAny, eNo, eNeg, eChain, eLst, lDisp, runD, startF, slotOf, Tg.put, Tg.puts, e1, sPar2, eSl, eBits, eVar, oSome, oNone, List.map_cons, List.map_nil, List.length_cons, List.length_nil, List.replicate, List.cons_append, List.nil_append, List.append_nil, List.getElem?_cons_zero, List.getElem?_cons_succ, List.set_cons_zero, List.set_cons_succ, Option.map_some, Option.bind_some, lim0, lim1, lim2, lim3, lim4, lim5, lim6, lim7, lim8, lim9, lim10, lim11, Nat.reduceAdd, Nat.reduceSub, Nat.reduceLT, Nat.reduceEqDiff, if_true, if_false, eq_self, decide_true, decide_false, Bool.false_eq_true, Bool.not_true, Bool.not_false, and_self, and_true, true_and, Nat.zero_lt_succ, Nat.lt_add_one, List.nodup_nil, List.nodup_cons, List.not_mem_nil, not_false_eq_true, Bool.false_and]
end L50
set_option maxRecDepth 100000
set_option maxHeartbeats 1000000
namespace L50
open PySem DL
def odds : List DV := [.tup [.int 2, .int 2], .tup [.int 1, .int 0], .tup [.int 1, .int (-1)], .non, .int 1, .tup [.bl true, .int 1], .lst [.int 1, .int 1], .tup [.int 0, .int 1], .tup [.int 0, .int 2], .tup [.int 1, .int 1, .int 1]]
def nearA (w : Str) (N : List DV) : List DV := [.tup [.str w, .tup N], .lst [.str w, .tup N], .tup [.str w], .tup [.str w, .tup N, .tup []], .tup [.str w, .lst N], .tup [.str w, .tup (N ++ [.tup [.int 1, .int 1]])], .tup [.str w, .tup (N.drop 1)], .tup [.tup N, .str w]]
def nearB (w : Str) (N : List DV) : List DV := [.tup [.str "Times", .tup N], .tup [.str "", .tup N], .tup [.non, .tup N], .tup [.str w, .non], .non, .int 5, .str "", .tup [], .dct]
def nearD (w : Str) (N : List DV) (t : Nat) : List DV := odds.map fun o => .tup [.str w, .tup (N.take t ++ [o] ++ N.drop (t + 1))]
theorem lim9' : (17 ≤ LIM) = True := eq_true (by decide)
theorem lim28' : (28 ≤ LIM) = True := eq_true (by decide)
theorem lt17' : (17 < LIM) = True := eq_true (by decide)
theorem slt_to {d : List DV} {n : Nat} (h : n ≤ d.length) : gSl (.tup d) none (some (n : Int)) = some (.tup (d.take n)) := by
  show some (DV.tup (cutD d none (some (n : Int)))) = _
  unfold cutD
  have h1 : HT.sIx d.length 0 none = 0 := HT.sIx_none _ _
  have h2 : HT.sIx d.length d.length (some (n : Int)) = n := by rw [HT.sIx_nat]; omega
  rw [h1, h2]
  simp
theorem slt_from {d : List DV} {n : Nat} (h : n ≤ d.length) : gSl (.tup d) (some (n : Int)) none = some (.tup (d.drop n)) := by
  show some (DV.tup (cutD d (some (n : Int)) none)) = _
  unfold cutD
  have h1 : HT.sIx d.length 0 (some (n : Int)) = n := by rw [HT.sIx_nat]; omega
  rw [h1, HT.sIx_none]
  congr 2
  rw [List.take_of_length_le (by simp)]
theorem tcat {a b : List DV} (h : a.length + b.length ≤ 100) : gAdd (.tup a) (.tup b) = some (.tup (a ++ b)) := by
  show (if a.length + b.length ≤ LIM then some (DV.tup (a ++ b)) else none) = _
  rw [if_pos (lim_of h)]
theorem llcat {a b : List DV} (h : a.length + b.length ≤ 100) : gAdd (.lst a) (.lst b) = some (.lst (a ++ b)) := by
  show (if a.length + b.length ≤ LIM then some (DV.lst (a ++ b)) else none) = _
  rw [if_pos (lim_of h)]
theorem t_near {l : Bool} {ck N : List DV} {st : Bool} (h : Cask ck) (h1 : 0 < N.length) (h2 : N.length ≤ 20) : ∃ (t : Nat) (ck' : List DV), m__law_near [.own l ck, .d (.tup [.str (wd st), .tup N])] = some (.ok (.lst ((nearA (wd st) N ++ nearB (wd st) N ++ [.tup [.str (wd (!st)), .tup N]]) ++ nearD (wd st) N t)), [ck']) ∧ Cask ck' ∧ t < N.length := by
  obtain ⟨t, c1, e1, hc, ht⟩ := t_tap (l := false) (many := N.length) h h1 (by omega)
  refine ⟨t, c1, ?_, hc, ht⟩
  have e2 : fLen [.tup N] = some (.int (N.length : Nat)) := rfl
  have e3 := tcat (a := N) (b := [.tup [.int 1, .int 1]]) (by simp; omega)
  have e4 : gSl (.tup N) (some 1) none = some (.tup (N.drop 1)) := slt_from (n := 1) h1
  have e5 := slt_to (d := N) (n := t) (by omega)
  have e6 : gSl (.tup N) (some ((t : Int) + 1)) none = some (.tup (N.drop (t + 1))) := slt_from (n := t + 1) (by omega)
  have e7 : gEq (.str (wd st)) (.str "times") = some (.bl st) := eq_S st
  let K := nearA (wd st) N ++ nearB (wd st) N ++ [.tup [.str (wd (!st)), .tup N]]
  let F0 (o6 : Option SV) : Frm := [some (.own false c1), some (.d (.tup [.str (wd st), .tup N])), some (.d (.str (wd st))), some (.d (.tup N)), some (.d (.int (t : Nat))), some (.own true K), o6]
  have hcmp := comp_pure (T := .nm 6) (fi := i__law_near_1) (fe := x__law_near_1) (fr := F0 none) (enc := id) (F := fun o => .tup [.str (wd st), .tup (N.take t ++ [o] ++ N.drop (t + 1))]) (fun o => F0 (some (.d o))) (l := odds) rfl rfl rfl (fun _ => rfl) (fun _ => rfl) (fun _ => rfl) rfl (fun o ho => by
    have e8 := tcat (a := N.take t) (b := [o]) (by simp; omega)
    have e9 := tcat (a := N.take t ++ [o]) (b := N.drop (t + 1)) (by simp; omega)
    simp only [x__law_near_1, F0, M.bnd, M.ret, M.stk, sSeq, sRet, sRetN, sIf, sSet, sExpr, sNx, eVar, eC, eBin, eFn, endFn, argF, slotsOf, wr, wr1, outsF, aCons, aNil, eTup, datas, eCal, snaps, snap, handed, eIf, tOf, tNo, tBoth, tAny, eBoth, eAny, eNo, eNeg, eChain, eLst, lDisp, runD, startF, slotOf, Tg.put, Tg.puts, e1, sPar2, eSl, eBits, eVar, oSome, oNone, List.map_cons, List.map_nil, List.length_cons, List.length_nil, List.replicate, List.cons_append, List.nil_append, List.append_nil, List.getElem?_cons_zero, List.getElem?_cons_succ, List.set_cons_zero, List.set_cons_succ, Option.map_some, Option.bind_some, lim0, lim1, lim2, lim3, lim4, lim5, lim6, lim7, lim8, lim9, lim10, lim11, Nat.reduceAdd, Nat.reduceSub, Nat.reduceLT, Nat.reduceEqDiff, if_true, if_false, eq_self, decide_true, decide_false, Bool.false_eq_true, Bool.not_true, Bool.not_false, and_self, and_true, true_and, Nat.zero_lt_succ, Nat.lt_add_one, List.nodup_nil, List.nodup_cons, List.not_mem_nil, not_false_eq_true, e5, add_ok, e6, e8, e9]) (by decide)
  have e10 := llcat (a := K) (b := nearD (wd st) N t) (by simp [K, nearA, nearB, nearD, odds])
  rw [show odds.map (fun o => .tup [.str (wd st), .tup (N.take t ++ [o] ++ N.drop (t + 1))]) = nearD (wd st) N t from rfl] at hcmp
  simp only [F0, K, nearA, nearB, List.map_cons, List.map_nil, List.length_cons, List.length_nil, List.replicate, List.cons_append, List.nil_append, List.append_nil, List.getElem?_cons_zero, List.getElem?_cons_succ, List.set_cons_zero, List.set_cons_succ, Option.map_some, Option.bind_some, lim0, lim1, lim2, lim3, lim4, lim5, lim6, lim7, lim8, lim9, lim10, lim11, Nat.reduceAdd, Nat.reduceSub, Nat.reduceLT, Nat.reduceEqDiff, if_true, if_false, eq_self, decide_true, decide_false, Bool.false_eq_true, Bool.not_true, Bool.not_false, and_self, and_true, true_and, Nat.zero_lt_succ, Nat.lt_add_one, List.nodup_nil, List.nodup_cons, List.not_mem_nil, not_false_eq_true] at hcmp e10 ⊢
  cases st with
  | true =>
    have w : (.str (wd (!true)) : DV) = .str "steps" := rfl
    simp only [Bool.not_true] at w hcmp e10 ⊢
    rw [w] at hcmp e10 ⊢
    simp only [m__law_near, g__law_near, sOwn, lBin, lList, seqOf, gCat, eApp, M.bnd, M.ret, M.stk, sSeq, sRet, sRetN, sIf, sSet, sExpr, sNx, eVar, eC, eBin, eFn, endFn, argF, slotsOf, wr, wr1, outsF, aCons, aNil, eTup, datas, eCal, snaps, snap, handed, eIf, tOf, tNo, tBoth, tAny, eBoth, eAny, eNo, eNeg, eChain, eLst, lDisp, runD, startF, slotOf, Tg.put, Tg.puts, e1, sPar2, eSl, eBits, eVar, oSome, oNone, List.map_cons, List.map_nil, List.length_cons, List.length_nil, List.replicate, List.cons_append, List.nil_append, List.append_nil, List.getElem?_cons_zero, List.getElem?_cons_succ, List.set_cons_zero, List.set_cons_succ, Option.map_some, Option.bind_some, lim0, lim1, lim2, lim3, lim4, lim5, lim6, lim7, lim8, lim9, lim10, lim11, Nat.reduceAdd, Nat.reduceSub, Nat.reduceLT, Nat.reduceEqDiff, if_true, if_false, eq_self, decide_true, decide_false, Bool.false_eq_true, Bool.not_true, Bool.not_false, and_self, and_true, true_and, Nat.zero_lt_succ, Nat.lt_add_one, List.nodup_nil, List.nodup_cons, List.not_mem_nil, not_false_eq_true, e1, e2, e3, e4, lim9', lt17', e7]
    simp only [↓hcmp, hcmp, M.bnd, M.ret, M.stk, sSeq, sRet, sRetN, sIf, sSet, sExpr, sNx, eVar, eC, eBin, eFn, endFn, argF, slotsOf, wr, wr1, outsF, aCons, aNil, eTup, datas, eCal, snaps, snap, handed, eIf, tOf, tNo, tBoth, tAny, eBoth, eAny, eNo, eNeg, eChain, eLst, lDisp, runD, startF, slotOf, Tg.put, Tg.puts, e1, sPar2, eSl, eBits, eVar, oSome, oNone, List.map_cons, List.map_nil, List.length_cons, List.length_nil, List.replicate, List.cons_append, List.nil_append, List.append_nil, List.getElem?_cons_zero, List.getElem?_cons_succ, List.set_cons_zero, List.set_cons_succ, Option.map_some, Option.bind_some, lim0, lim1, lim2, lim3, lim4, lim5, lim6, lim7, lim8, lim9, lim10, lim11, Nat.reduceAdd, Nat.reduceSub, Nat.reduceLT, Nat.reduceEqDiff, if_true, if_false, eq_self, decide_true, decide_false, Bool.false_eq_true, Bool.not_true, Bool.not_false, and_self, and_true, true_and, Nat.zero_lt_succ, Nat.lt_add_one, List.nodup_nil, List.nodup_cons, List.not_mem_nil, not_false_eq_true, e10]
    all_goals rfl
  | false =>
    have w : (.str (wd (!false)) : DV) = .str "times" := rfl
    simp only [Bool.not_false] at w hcmp e10 ⊢
    rw [w] at hcmp e10 ⊢
    simp only [m__law_near, g__law_near, sOwn, lBin, lList, seqOf, gCat, eApp, M.bnd, M.ret, M.stk, sSeq, sRet, sRetN, sIf, sSet, sExpr, sNx, eVar, eC, eBin, eFn, endFn, argF, slotsOf, wr, wr1, outsF, aCons, aNil, eTup, datas, eCal, snaps, snap, handed, eIf, tOf, tNo, tBoth, tAny, eBoth, eAny, eNo, eNeg, eChain, eLst, lDisp, runD, startF, slotOf, Tg.put, Tg.puts, e1, sPar2, eSl, eBits, eVar, oSome, oNone, List.map_cons, List.map_nil, List.length_cons, List.length_nil, List.replicate, List.cons_append, List.nil_append, List.append_nil, List.getElem?_cons_zero, List.getElem?_cons_succ, List.set_cons_zero, List.set_cons_succ, Option.map_some, Option.bind_some, lim0, lim1, lim2, lim3, lim4, lim5, lim6, lim7, lim8, lim9, lim10, lim11, Nat.reduceAdd, Nat.reduceSub, Nat.reduceLT, Nat.reduceEqDiff, if_true, if_false, eq_self, decide_true, decide_false, Bool.false_eq_true, Bool.not_true, Bool.not_false, and_self, and_true, true_and, Nat.zero_lt_succ, Nat.lt_add_one, List.nodup_nil, List.nodup_cons, List.not_mem_nil, not_false_eq_true, e1, e2, e3, e4, lim9', lt17', e7]
    simp only [↓hcmp, hcmp, M.bnd, M.ret, M.stk, sSeq, sRet, sRetN, sIf, sSet, sExpr, sNx, eVar, eC, eBin, eFn, endFn, argF, slotsOf, wr, wr1, outsF, aCons, aNil, eTup, datas, eCal, snaps, snap, handed, eIf, tOf, tNo, tBoth, tAny, eBoth, eAny, eNo, eNeg, eChain, eLst, lDisp, runD, startF, slotOf, Tg.put, Tg.puts, e1, sPar2, eSl, eBits, eVar, oSome, oNone, List.map_cons, List.map_nil, List.length_cons, List.length_nil, List.replicate, List.cons_append, List.nil_append, List.append_nil, List.getElem?_cons_zero, List.getElem?_cons_succ, List.set_cons_zero, List.set_cons_succ, Option.map_some, Option.bind_some, lim0, lim1, lim2, lim3, lim4, lim5, lim6, lim7, lim8, lim9, lim10, lim11, Nat.reduceAdd, Nat.reduceSub, Nat.reduceLT, Nat.reduceEqDiff, if_true, if_false, eq_self, decide_true, decide_false, Bool.false_eq_true, Bool.not_true, Bool.not_false, and_self, and_true, true_and, Nat.zero_lt_succ, Nat.lt_add_one, List.nodup_nil, List.nodup_cons, List.not_mem_nil, not_false_eq_true, e10]
    all_goals rfl
end L50
set_option maxRecDepth 100000
set_option maxHeartbeats 1000000
namespace L50
open PySem DL
theorem odds_fr : ∀ o ∈ odds, ∃ b, FrB o b := by
  intro o ho
  simp only [odds, List.mem_cons, List.not_mem_nil, or_false] at ho
  rcases ho with e | e | e | e | e | e | e | e | e | e <;> subst e
  · exact ⟨false, rfl, rfl⟩
  · exact ⟨false, rfl, rfl⟩
  · exact ⟨false, rfl, rfl⟩
  · exact ⟨false, rfl, rfl⟩
  · exact ⟨false, rfl, rfl⟩
  · exact ⟨false, rfl, rfl⟩
  · exact ⟨false, rfl, rfl⟩
  · exact ⟨true, rfl, rfl⟩
  · exact ⟨false, rfl, rfl⟩
  · exact ⟨false, rfl, rfl⟩
theorem near_any {m : Nat} {st : Bool} {ds : List DV} (hl : ds.length ≤ 50) (h : ∀ d ∈ ds, ∃ b, FrB d b) : ∃ b, Near m (.tup [.str (wd st), .tup ds]) b := by
  have : ∀ d : DV, ∃ b, d ∈ ds → FrB d b := fun d => by
    by_cases z : d ∈ ds
    · obtain ⟨b, hb⟩ := h d z
      exact ⟨b, fun _ => hb⟩
    · exact ⟨true, fun w => absurd w z⟩
  obtain ⟨f, hf⟩ := Classical.axiomOfChoice this
  exact ⟨_, near_tup hl fun d hd => hf d hd⟩
theorem bad_text1 : ∀ T : List DV, T = [c_TIMES, c_STEPS] ∨ T = [.str "times", .str "steps"] → gIn true (.str "Times") (.tup T) = some (.bl true) ∧ gIn true (.str "") (.tup T) = some (.bl true) := by
  intro T h
  rcases h with e | e <;> subst e <;> constructor <;> first | rfl | decide | kernel_rfl
theorem near_all {m t : Nat} {st : Bool} {ns : List Rat} (hs : Sms ns) (hl : ns.length = m + 1) (hm : m ≤ 6) (ht : t < ns.length) : ∀ v ∈ (nearA (wd st) (ns.map fr) ++ nearB (wd st) (ns.map fr) ++ [.tup [.str (wd (!st)), .tup (ns.map fr)]]) ++ nearD (wd st) (ns.map fr) t, ∃ b, Near m v b := by
  have N1 : ∀ d ∈ ns.map fr, ∃ b, FrB d b := fun d hd => by
    obtain ⟨q, hq, e⟩ := List.mem_map.mp hd
    subst e
    exact ⟨true, frB_fr (hs q hq)⟩
  have e2 : ∀ b : DV, (∃ l, b = .lst l) ∨ b = .non → m_are_fractions [.d b, .d (.int ((m : Int) + 1)), .d (.int ((m : Int) + 1))] = some (.ok (.bl false), []) := fun b hb => by
    rcases hb with ⟨l, e⟩ | e <;> subst e <;> rfl
  have nl : (ns.map fr).length ≤ 7 := by rw [List.length_map]; omega
  intro v hv
  rcases List.mem_append.mp hv with hv | hv
  · rcases List.mem_append.mp hv with hv | hv
    · rcases List.mem_append.mp hv with hv | hv
      · simp only [nearA, List.mem_cons, List.not_mem_nil, or_false] at hv
        rcases hv with e | e | e | e | e | e | e | e <;> subst e
        · exact near_any (by omega) N1
        · exact ⟨false, near_no rfl rfl⟩
        · exact ⟨false, near_len (by simp)⟩
        · exact ⟨false, near_len (by simp)⟩
        · exact ⟨false, near_nums (e2 _ (.inl ⟨_, rfl⟩)) rfl⟩
        · refine near_any (by simp; omega) fun d hd => ?_
          rcases List.mem_append.mp hd with hd | hd
          · exact N1 d hd
          · have : d = .tup [.int 1, .int 1] := by simpa using hd
            exact ⟨true, by rw [this]; exact (frB_fr sm1 : FrB (fr 1) true)⟩
        · exact near_any (by simp; omega) fun d hd => N1 d (List.mem_of_mem_drop hd)
        · exact ⟨false, near_word rfl⟩
      · simp only [nearB, List.mem_cons, List.not_mem_nil, or_false] at hv
        rcases hv with e | e | e | e | e | e | e | e | e <;> subst e
        · exact ⟨false, near_text (bad_text1 _ (.inl rfl)).1 (bad_text1 _ (.inr rfl)).1⟩
        · exact ⟨false, near_text (bad_text1 _ (.inl rfl)).2 (bad_text1 _ (.inr rfl)).2⟩
        · exact ⟨false, near_word rfl⟩
        · exact ⟨false, near_nums (e2 _ (.inr rfl)) rfl⟩
        · exact ⟨false, near_no rfl rfl⟩
        · exact ⟨false, near_no rfl rfl⟩
        · exact ⟨false, near_no rfl rfl⟩
        · exact ⟨false, near_len (by decide)⟩
        · exact ⟨false, near_no rfl rfl⟩
    · have : v = .tup [.str (wd (!st)), .tup (ns.map fr)] := by simpa using hv
      rw [this]
      exact near_any (by omega) N1
  · obtain ⟨o, ho, e⟩ := List.mem_map.mp hv
    subst e
    refine near_any (by simp; omega) fun d hd => ?_
    rcases List.mem_append.mp hd with hd | hd
    · rcases List.mem_append.mp hd with hd | hd
      · exact N1 d (List.mem_of_mem_take hd)
      · have : d = o := by simpa using hd
        rw [this]; exact odds_fr o ho
    · exact N1 d (List.mem_of_mem_drop hd)
/-! ### the package's doors -/
theorem is_mk {m : Nat} {st : Bool} {ns : List Rat} (hs : Sms ns) (hl : ns.length ≤ 50) : m_is_making_by [.d (.int (m : Nat)), .d (mk st ns)] = some (.ok (.bl (decide (ns.length = m + 1))), []) := by
  have := (near_tup (m := m) (st := st) (ds := ns.map fr) (f := fun _ => true) (by rw [List.length_map]; exact hl) (fun d hd => by
    obtain ⟨q, hq, e⟩ := List.mem_map.mp hd
    subst e
    exact frB_fr (hs q hq))).1
  rw [List.length_map, show ((ns.map fr).all fun _ => true) = true by simp, Bool.and_true] at this
  exact this
theorem t_is_making {m : Nat} {v : DV} {b : Bool} (h1 : 1 ≤ m) (h2 : m ≤ 6) (h : m_is_making_by [.d (.int (m : Nat)), .d v] = some (.ok (.bl b), [])) : m_is_making [.d (.int (m : Nat)), .d v] = some (.ok (.bl b), []) := by
  simp only [m_is_making, g_is_making, M.bnd, M.ret, M.stk, sSeq, sRet, sRetN, sIf, sSet, sExpr, sNx, eVar, eC, eBin, eFn, endFn, argF, slotsOf, wr, wr1, outsF, aCons, aNil, eTup, datas, eCal, snaps, snap, handed, eIf, tOf, tNo, tBoth, tAny, eBoth, eAny, eNo, eNeg, eChain, eLst, lDisp, runD, startF, slotOf, Tg.put, Tg.puts, e1, sPar2, eSl, eBits, eVar, oSome, oNone, List.map_cons, List.map_nil, List.length_cons, List.length_nil, List.replicate, List.cons_append, List.nil_append, List.append_nil, List.getElem?_cons_zero, List.getElem?_cons_succ, List.set_cons_zero, List.set_cons_succ, Option.map_some, Option.bind_some, lim0, lim1, lim2, lim3, lim4, lim5, lim6, lim7, lim8, lim9, lim10, lim11, Nat.reduceAdd, Nat.reduceSub, Nat.reduceLT, Nat.reduceEqDiff, if_true, if_false, eq_self, decide_true, decide_false, Bool.false_eq_true, Bool.not_true, Bool.not_false, and_self, and_true, true_and, Nat.zero_lt_succ, Nat.lt_add_one, List.nodup_nil, List.nodup_cons, List.not_mem_nil, not_false_eq_true, t_check_most h1 h2, h]
theorem t_check_making {m : Nat} {st : Bool} {ns : List Rat} (h1 : 1 ≤ m) (h2 : m ≤ 6) (hs : Sms ns) (hl : ns.length = m + 1) : m_check_making [.d (.int (m : Nat)), .d (mk st ns)] = some (.ok .non, []) := by
  have e := is_mk (m := m) (st := st) hs (by omega)
  rw [decide_eq_true hl] at e
  simp only [m_check_making, g_check_making, M.bnd, M.ret, M.stk, sSeq, sRet, sRetN, sIf, sSet, sExpr, sNx, eVar, eC, eBin, eFn, endFn, argF, slotsOf, wr, wr1, outsF, aCons, aNil, eTup, datas, eCal, snaps, snap, handed, eIf, tOf, tNo, tBoth, tAny, eBoth, eAny, eNo, eNeg, eChain, eLst, lDisp, runD, startF, slotOf, Tg.put, Tg.puts, e1, sPar2, eSl, eBits, eVar, oSome, oNone, List.map_cons, List.map_nil, List.length_cons, List.length_nil, List.replicate, List.cons_append, List.nil_append, List.append_nil, List.getElem?_cons_zero, List.getElem?_cons_succ, List.set_cons_zero, List.set_cons_succ, Option.map_some, Option.bind_some, lim0, lim1, lim2, lim3, lim4, lim5, lim6, lim7, lim8, lim9, lim10, lim11, Nat.reduceAdd, Nat.reduceSub, Nat.reduceLT, Nat.reduceEqDiff, if_true, if_false, eq_self, decide_true, decide_false, Bool.false_eq_true, Bool.not_true, Bool.not_false, and_self, and_true, true_and, Nat.zero_lt_succ, Nat.lt_add_one, List.nodup_nil, List.nodup_cons, List.not_mem_nil, not_false_eq_true, t_check_most h1 h2, e]
theorem t_made {m : Nat} {st : Bool} {ns p : List Rat} (h1 : 1 ≤ m) (h2 : m ≤ 6) (hl : ns.length = m + 1) (hf : Fit ns p) (ht : trim p = p) (hp : p.length ≤ m + 1) : m_made [.d (.int (m : Nat)), .d (mk st ns), .d (po p)] = some (.ok (po (madeL st ns p)), []) := by
  have ⟨sn, sp⟩ := fit_sm hf
  simp only [m_made, g_made, M.bnd, M.ret, M.stk, sSeq, sRet, sRetN, sIf, sSet, sExpr, sNx, eVar, eC, eBin, eFn, endFn, argF, slotsOf, wr, wr1, outsF, aCons, aNil, eTup, datas, eCal, snaps, snap, handed, eIf, tOf, tNo, tBoth, tAny, eBoth, eAny, eNo, eNeg, eChain, eLst, lDisp, runD, startF, slotOf, Tg.put, Tg.puts, e1, sPar2, eSl, eBits, eVar, oSome, oNone, List.map_cons, List.map_nil, List.length_cons, List.length_nil, List.replicate, List.cons_append, List.nil_append, List.append_nil, List.getElem?_cons_zero, List.getElem?_cons_succ, List.set_cons_zero, List.set_cons_succ, Option.map_some, Option.bind_some, lim0, lim1, lim2, lim3, lim4, lim5, lim6, lim7, lim8, lim9, lim10, lim11, Nat.reduceAdd, Nat.reduceSub, Nat.reduceLT, Nat.reduceEqDiff, if_true, if_false, eq_self, decide_true, decide_false, Bool.false_eq_true, Bool.not_true, Bool.not_false, and_self, and_true, true_and, Nat.zero_lt_succ, Nat.lt_add_one, List.nodup_nil, List.nodup_cons, List.not_mem_nil, not_false_eq_true, t_check_making h1 h2 sn hl, t_check_up h2 ⟨ht, sp, hp⟩, t_made_by hf]
theorem t_poly_sum {p q : List Rat} (hp : Pol p 13) (hq : Pol q 13) : m_poly_sum [.d (po p), .d (po q)] = some (.ok (po (trim (addL p q))), []) := by
  have a := hp.len
  have b := hq.len
  simp only [m_poly_sum, g_poly_sum, M.bnd, M.ret, M.stk, sSeq, sRet, sRetN, sIf, sSet, sExpr, sNx, eVar, eC, eBin, eFn, endFn, argF, slotsOf, wr, wr1, outsF, aCons, aNil, eTup, datas, eCal, snaps, snap, handed, eIf, tOf, tNo, tBoth, tAny, eBoth, eAny, eNo, eNeg, eChain, eLst, lDisp, runD, startF, slotOf, Tg.put, Tg.puts, e1, sPar2, eSl, eBits, eVar, oSome, oNone, List.map_cons, List.map_nil, List.length_cons, List.length_nil, List.replicate, List.cons_append, List.nil_append, List.append_nil, List.getElem?_cons_zero, List.getElem?_cons_succ, List.set_cons_zero, List.set_cons_succ, Option.map_some, Option.bind_some, lim0, lim1, lim2, lim3, lim4, lim5, lim6, lim7, lim8, lim9, lim10, lim11, Nat.reduceAdd, Nat.reduceSub, Nat.reduceLT, Nat.reduceEqDiff, if_true, if_false, eq_self, decide_true, decide_false, Bool.false_eq_true, Bool.not_true, Bool.not_false, and_self, and_true, true_and, Nat.zero_lt_succ, Nat.lt_add_one, List.nodup_nil, List.nodup_cons, List.not_mem_nil, not_false_eq_true, t_check_polys hp hq, t_sum_by (by omega) (by omega) hp.sm hq.sm]
end L50
set_option maxRecDepth 100000
set_option maxHeartbeats 1000000
namespace L50
open PySem DL
/-! ### texts alike -/
theorem shown_i {i : Int} (h : i.natAbs < 2 ^ 1000) : (PyData.shown (.int i)).length ≤ 2000 := by
  have e := int_text_length_le (k := 1920) (by decide) (a := i) (Nat.lt_trans (log_lt h (by decide)) (by decide))
  show (Str.ofString (toString i)).length ≤ 2000
  rw [ofString_length]
  omega
theorem shown_q {q : Rat} (h : Sm q) : (PyData.shown (pyQ q)).length ≤ 4010 := by
  have h1 := shown_i h.1
  have h2 := shown_i (i := (q.den : Int)) (by rw [Int.natAbs_natCast]; exact h.2)
  have := tupleText_len_le [PyData.shown (.int q.num), PyData.shown (.int q.den)]
  show (tupleText [PyData.shown (.int q.num), PyData.shown (.int q.den)]).length ≤ 4010
  simp only [List.map_cons, List.map_nil, List.sum_cons, List.sum_nil, List.length_cons, List.length_nil] at this
  omega
theorem shown_all : ∀ p : List Rat, Sms p → ((PyData.shownAll (p.map pyQ)).map (·.length)).sum ≤ 4010 * p.length ∧ (PyData.shownAll (p.map pyQ)).length = p.length
  | [], _ => ⟨Nat.le_refl _, rfl⟩
  | q :: p, h => by
    obtain ⟨h1, h2⟩ := shown_all p fun x hx => h x (List.mem_cons_of_mem _ hx)
    have h3 := shown_q (h q (List.mem_cons_self ..))
    simp only [List.map_cons, PyData.shownAll, List.sum_cons, List.length_cons]
    refine ⟨by omega, by omega⟩
theorem shown_po {p : List Rat} (h : Sms p) (hl : p.length ≤ 8) : (PyData.shown (.tuple (p.map pyQ))).length ≤ 40000 := by
  obtain ⟨h1, h2⟩ := shown_all p h
  have := tupleText_len_le (PyData.shownAll (p.map pyQ))
  show (tupleText (PyData.shownAll (p.map pyQ))).length ≤ 40000
  omega
theorem able_all : ∀ p : List Rat, Sms p → PyData.showableAll (p.map pyQ) = true
  | [], _ => rfl
  | q :: p, h => by
    have ih := able_all p fun x hx => h x (List.mem_cons_of_mem _ hx)
    have hq := h q (List.mem_cons_self ..)
    have a1 : decide (q.num.natAbs.log2 < 1920) = true := decide_eq_true (Nat.lt_trans (log_lt hq.1 (by decide)) (by decide))
    have a2 : decide ((q.den : Int).natAbs.log2 < 1920) = true := decide_eq_true (by rw [Int.natAbs_natCast]; exact Nat.lt_trans (log_lt hq.2 (by decide)) (by decide))
    show ((decide (q.num.natAbs.log2 < 1920) && (decide ((q.den : Int).natAbs.log2 < 1920) && true)) && PyData.showableAll (p.map pyQ)) = true
    rw [a1, a2, ih]; rfl
theorem nodict_all : ∀ p : List Rat, PyData.hasDictAll (p.map pyQ) = false
  | [] => rfl
  | q :: p => by
    show (false || PyData.hasDictAll (p.map pyQ)) = false
    rw [nodict_all p]; rfl
theorem repr_po {p : List Rat} (h : Sms p) (hl : p.length ≤ 8) : fRepr [po p] = some (.str (PyData.shown (.tuple (p.map pyQ)))) := by
  have e1 := py_po p
  have d : PyData.depth (.tuple (p.map pyQ)) ≤ 100 := by
    have := depth_all p
    rw [PyData.depth]; omega
  have c : PyData.showable (.tuple (p.map pyQ)) = true ∧ PyData.hasDict (.tuple (p.map pyQ)) = false ∧ PyData.depth (.tuple (p.map pyQ)) ≤ 100 ∧ (PyData.shown (.tuple (p.map pyQ))).length ≤ LIM := ⟨able_all p h, nodict_all p, d, Nat.le_trans (shown_po h hl) (by decide)⟩
  show (DV.py (po p)).bind _ = _
  rw [e1, Option.bind_some, if_pos c]
theorem repr_two {p q : List Rat} (hp : Sms p) (hq : Sms q) (lp : p.length ≤ 8) (lq : q.length ≤ 8) : fRepr [.tup [po p, po q]] = some (.str (PyData.shown (.tuple [.tuple (p.map pyQ), .tuple (q.map pyQ)]))) := by
  have e1 : DV.py (.tup [po p, po q]) = some (.tuple [.tuple (p.map pyQ), .tuple (q.map pyQ)]) := by
    simp only [DV.py, DV.pys, py_po, Option.map_some]
  have d : PyData.depth (.tuple [.tuple (p.map pyQ), .tuple (q.map pyQ)]) ≤ 100 := by
    have h1 := depth_all p
    have h2 := depth_all q
    simp only [PyData.depth, PyData.depthAll]
    omega
  have s : (PyData.shown (.tuple [.tuple (p.map pyQ), .tuple (q.map pyQ)])).length ≤ LIM := by
    have h1 := shown_po hp lp
    have h2 := shown_po hq lq
    have := tupleText_len_le [PyData.shown (.tuple (p.map pyQ)), PyData.shown (.tuple (q.map pyQ))]
    simp only [List.map_cons, List.map_nil, List.sum_cons, List.sum_nil, List.length_cons, List.length_nil] at this
    show (tupleText [PyData.shown (.tuple (p.map pyQ)), PyData.shown (.tuple (q.map pyQ))]).length ≤ 100000
    omega
  have a : PyData.showable (.tuple [.tuple (p.map pyQ), .tuple (q.map pyQ)]) = true := by
    show (PyData.showableAll (p.map pyQ) && (PyData.showableAll (q.map pyQ) && true)) = true
    rw [able_all p hp, able_all q hq]; rfl
  have b : PyData.hasDict (.tuple [.tuple (p.map pyQ), .tuple (q.map pyQ)]) = false := by
    show (PyData.hasDictAll (p.map pyQ) || (PyData.hasDictAll (q.map pyQ) || false)) = false
    rw [nodict_all p, nodict_all q]; rfl
  show (DV.py (.tup [po p, po q])).bind _ = _
  rw [e1, Option.bind_some, if_pos ⟨a, b, d, s⟩]
/-- a text is itself -/
theorem str_same (s : Str) (h : SeqAt.shaped (.str s) = true) : gEq (.str s) (.str s) = some (.bl true) := by
  unfold gEq eqB
  rw [show DV.py (.str s) = some (.str s) from rfl]
  simp only [h, and_self, if_true, Option.map_some]
  rw [show PyData.eqv (.str s) (.str s) = (s == s) from rfl]
  simp
/-! texts of good signs -/
def Gd (s : Str) : Prop := ∀ c ∈ s.cps.toList, c < 0x110000
theorem gd_app {a b : Str} (h : Gd a) (k : Gd b) : Gd (a ++ b) := fun c hc => by
  have e : (a ++ b).cps = a.cps ++ b.cps := rfl
  rw [e, Array.toList_append] at hc
  rcases List.mem_append.mp hc with hc | hc
  · exact h c hc
  · exact k c hc
theorem gd_of (s : String) : Gd (Str.ofString s) := fun c hc => by
  rw [Str.ofString_eq_toList] at hc
  have hc' : c ∈ s.toList.map Char.toNat := by simpa using hc
  obtain ⟨x, _, e⟩ := List.mem_map.mp hc'
  subst e
  have h := x.valid
  have ht : x.toNat = x.val.toNat := rfl
  simp only [UInt32.isValidChar, Nat.isValidChar] at h
  omega
theorem gd_join {sep : Str} (hs : Gd sep) : ∀ ts : List Str, (∀ t ∈ ts, Gd t) → Gd (Str.join sep ts)
  | [], _ => fun c hc => by cases hc
  | [x], h => h x (List.mem_cons_self ..)
  | x :: y :: r, h => gd_app (gd_app (h x (List.mem_cons_self ..)) hs) (gd_join hs (y :: r) fun t ht => h t (List.mem_cons_of_mem _ ht))
theorem gd_tup {ts : List Str} (h : ∀ t ∈ ts, Gd t) : Gd (tupleText ts) := gd_app (gd_app (gd_of _) (gd_join (gd_of _) ts h)) (gd_of _)
theorem gd_q (q : Rat) : Gd (PyData.shown (pyQ q)) := gd_tup fun t ht => by
  simp only [PyData.shownAll, List.mem_cons, List.not_mem_nil, or_false] at ht
  rcases ht with e | e <;> rw [e] <;> exact gd_of _
theorem gd_all : ∀ p : List Rat, ∀ t ∈ PyData.shownAll (p.map pyQ), Gd t
  | [], t, h => by cases h
  | q :: p, t, h => by
    rcases List.mem_cons.mp (show t ∈ PyData.shown (pyQ q) :: PyData.shownAll (p.map pyQ) from h) with e | e
    · rw [e]; exact gd_q q
    · exact gd_all p t e
theorem gd_po (p : List Rat) : Gd (PyData.shown (.tuple (p.map pyQ))) := gd_tup (gd_all p)
theorem gd_two (p q : List Rat) : Gd (PyData.shown (.tuple [.tuple (p.map pyQ), .tuple (q.map pyQ)])) := gd_tup fun t ht => by
  simp only [PyData.shownAll, List.mem_cons, List.not_mem_nil, or_false] at ht
  rcases ht with e | e <;> rw [e] <;> exact gd_po _
theorem gd_shaped {s : Str} (h : Gd s) : SeqAt.shaped (.str s) = true := by
  have h1 : PyData.strOk s = true := by
    unfold PyData.strOk
    rw [Array.all_eq_true']
    intro c hc
    exact decide_eq_true (h c (by simpa using hc))
  show (PyData.strOk s && decide (PyData.depth (.str s) ≤ 64)) = true
  rw [h1]
  simp [PyData.depth]
theorem t_alike_po {p : List Rat} (h : Sms p) (hl : p.length ≤ 8) : m__law_alike [.d (po p), .d (po p)] = some (.ok (.bl true), []) := by
  simp only [m__law_alike, g__law_alike, M.bnd, M.ret, M.stk, sSeq, sRet, sRetN, sIf, sSet, sExpr, sNx, eVar, eC, eBin, eFn, endFn, argF, slotsOf, wr, wr1, outsF, aCons, aNil, eTup, datas, eCal, snaps, snap, handed, eIf, tOf, tNo, tBoth, tAny, eBoth, eAny, eNo, eNeg, eChain, eLst, lDisp, runD, startF, slotOf, Tg.put, Tg.puts, e1, sPar2, eSl, eBits, eVar, oSome, oNone, List.map_cons, List.map_nil, List.length_cons, List.length_nil, List.replicate, List.cons_append, List.nil_append, List.append_nil, List.getElem?_cons_zero, List.getElem?_cons_succ, List.set_cons_zero, List.set_cons_succ, Option.map_some, Option.bind_some, lim0, lim1, lim2, lim3, lim4, lim5, lim6, lim7, lim8, lim9, lim10, lim11, Nat.reduceAdd, Nat.reduceSub, Nat.reduceLT, Nat.reduceEqDiff, if_true, if_false, eq_self, decide_true, decide_false, Bool.false_eq_true, Bool.not_true, Bool.not_false, and_self, and_true, true_and, Nat.zero_lt_succ, Nat.lt_add_one, List.nodup_nil, List.nodup_cons, List.not_mem_nil, not_false_eq_true, repr_po h hl, str_same _ (gd_shaped (gd_po p))]
theorem t_alike_two {p q : List Rat} (hp : Sms p) (hq : Sms q) (lp : p.length ≤ 8) (lq : q.length ≤ 8) : m__law_alike [.d (.tup [po p, po q]), .d (.tup [po p, po q])] = some (.ok (.bl true), []) := by
  simp only [m__law_alike, g__law_alike, M.bnd, M.ret, M.stk, sSeq, sRet, sRetN, sIf, sSet, sExpr, sNx, eVar, eC, eBin, eFn, endFn, argF, slotsOf, wr, wr1, outsF, aCons, aNil, eTup, datas, eCal, snaps, snap, handed, eIf, tOf, tNo, tBoth, tAny, eBoth, eAny, eNo, eNeg, eChain, eLst, lDisp, runD, startF, slotOf, Tg.put, Tg.puts, e1, sPar2, eSl, eBits, eVar, oSome, oNone, List.map_cons, List.map_nil, List.length_cons, List.length_nil, List.replicate, List.cons_append, List.nil_append, List.append_nil, List.getElem?_cons_zero, List.getElem?_cons_succ, List.set_cons_zero, List.set_cons_succ, Option.map_some, Option.bind_some, lim0, lim1, lim2, lim3, lim4, lim5, lim6, lim7, lim8, lim9, lim10, lim11, Nat.reduceAdd, Nat.reduceSub, Nat.reduceLT, Nat.reduceEqDiff, if_true, if_false, eq_self, decide_true, decide_false, Bool.false_eq_true, Bool.not_true, Bool.not_false, and_self, and_true, true_and, Nat.zero_lt_succ, Nat.lt_add_one, List.nodup_nil, List.nodup_cons, List.not_mem_nil, not_false_eq_true, repr_two hp hq lp lq, str_same _ (gd_shaped (gd_two p q))]
theorem t_alike_bl (b : Bool) : m__law_alike [.d (.bl b), .d (.bl b)] = some (.ok (.bl true), []) := by cases b <;> first | rfl | kernel_rfl
end L50
set_option maxRecDepth 100000
set_option maxHeartbeats 1000000
namespace L50
open PySem DL
theorem bd_zero' (D B : Nat) : Bd D B 0 := bd_zero B
theorem t_dmaking {l : Bool} {ck : List DV} {most : Nat} (h : Cask ck) (hm : most ≤ 6) : ∃ (st : Bool) (ns : List Rat) (ck' : List DV), m__law_drawn_making [.own l ck, .d (.int (most : Nat))] = some (.ok (mk st ns), [ck']) ∧ Cask ck' ∧ Bp 6 36 ns ∧ ns.length = most + 1 := by
  obtain ⟨x, c1, e1, h1, hx⟩ := t_one (l := false) (things := [.str "times", .str "steps"]) h (by decide) (by decide)
  have : ∃ st : Bool, x = .str (wd st) := by
    simp only [List.mem_cons, List.not_mem_nil, or_false] at hx
    rcases hx with e | e
    · exact ⟨true, e⟩
    · exact ⟨false, e⟩
  obtain ⟨st, e⟩ := this
  subst e
  let F (c : List DV) (o2 : Option SV) : Frm := [some (.own false c), some (.d (.int (most : Nat))), o2]
  obtain ⟨ys, f', k1, ⟨c4, o2, k2, k3⟩, k4, k5⟩ := lc_some (T := .nm 2) (fe := x__law_drawn_making_1) (fun f => ∃ c o2, f = F c o2 ∧ Cask c) (fun y => ∃ q, y = fr q ∧ Bd 6 36 q) (rangeD 0 ((most : Int) + 1).toNat) (F c1 none) (fun x _ f hf => by
    obtain ⟨c, o2, e, hc⟩ := hf
    subst e
    obtain ⟨t, c2, e2, h2, ht⟩ := t_tap (l := false) (many := 4) hc (by decide) (by decide)
    have e2' : m__law_tap [.own false c, .d (.int 4)] = some (.ok (.int (t : Nat)), [c2]) := e2
    by_cases z : ((t : Nat) : Int) > 0
    · obtain ⟨q, c5, e5, h5, hq⟩ := t_dfrac (l := false) h2
      refine ⟨F c (some (.d x)), fr q, F c5 (some (.d x)), rfl, ?_, ⟨c5, _, rfl, h5⟩, q, rfl, hq⟩
      simp only [x__law_drawn_making_1, F, M.bnd, M.ret, M.stk, sSeq, sRet, sRetN, sIf, sSet, sExpr, sNx, eVar, eC, eBin, eFn, endFn, argF, slotsOf, wr, wr1, outsF, aCons, aNil, eTup, datas, eCal, snaps, snap, handed, eIf, tOf, tNo, tBoth, tAny, eBoth, eAny, eNo, eNeg, eChain, eLst, lDisp, runD, startF, slotOf, Tg.put, Tg.puts, e1, sPar2, eSl, eBits, eVar, oSome, oNone, List.map_cons, List.map_nil, List.length_cons, List.length_nil, List.replicate, List.cons_append, List.nil_append, List.append_nil, List.getElem?_cons_zero, List.getElem?_cons_succ, List.set_cons_zero, List.set_cons_succ, Option.map_some, Option.bind_some, lim0, lim1, lim2, lim3, lim4, lim5, lim6, lim7, lim8, lim9, lim10, lim11, Nat.reduceAdd, Nat.reduceSub, Nat.reduceLT, Nat.reduceEqDiff, if_true, if_false, eq_self, decide_true, decide_false, Bool.false_eq_true, Bool.not_true, Bool.not_false, and_self, and_true, true_and, Nat.zero_lt_succ, Nat.lt_add_one, List.nodup_nil, List.nodup_cons, List.not_mem_nil, not_false_eq_true, e2', gt_ok, decide_eq_true z, e5]
    · refine ⟨F c (some (.d x)), fr 0, F c2 (some (.d x)), rfl, ?_, ⟨c2, _, rfl, h2⟩, 0, rfl, bd_zero 36⟩
      simp only [x__law_drawn_making_1, F, M.bnd, M.ret, M.stk, sSeq, sRet, sRetN, sIf, sSet, sExpr, sNx, eVar, eC, eBin, eFn, endFn, argF, slotsOf, wr, wr1, outsF, aCons, aNil, eTup, datas, eCal, snaps, snap, handed, eIf, tOf, tNo, tBoth, tAny, eBoth, eAny, eNo, eNeg, eChain, eLst, lDisp, runD, startF, slotOf, Tg.put, Tg.puts, e1, sPar2, eSl, eBits, eVar, oSome, oNone, List.map_cons, List.map_nil, List.length_cons, List.length_nil, List.replicate, List.cons_append, List.nil_append, List.append_nil, List.getElem?_cons_zero, List.getElem?_cons_succ, List.set_cons_zero, List.set_cons_succ, Option.map_some, Option.bind_some, lim0, lim1, lim2, lim3, lim4, lim5, lim6, lim7, lim8, lim9, lim10, lim11, Nat.reduceAdd, Nat.reduceSub, Nat.reduceLT, Nat.reduceEqDiff, if_true, if_false, eq_self, decide_true, decide_false, Bool.false_eq_true, Bool.not_true, Bool.not_false, and_self, and_true, true_and, Nat.zero_lt_succ, Nat.lt_add_one, List.nodup_nil, List.nodup_cons, List.not_mem_nil, not_false_eq_true, e2', gt_ok, decide_eq_false z]
      rfl) ⟨c1, none, rfl, h1⟩
  subst k2
  have hl : -(LIM : Int) ≤ ((most : Nat) : Int) + 1 ∧ ((most : Nat) : Int) + 1 ≤ LIM := by rw [lim_int]; omega
  have hit : i__law_drawn_making_1 (F c1 none) = some (.ok (rangeD 0 ((most : Int) + 1).toNat), F c1 none) := by
    simp only [i__law_drawn_making_1, iRg1, F, M.bnd, M.ret, M.stk, sSeq, sRet, sRetN, sIf, sSet, sExpr, sNx, eVar, eC, eBin, eFn, endFn, argF, slotsOf, wr, wr1, outsF, aCons, aNil, eTup, datas, eCal, snaps, snap, handed, eIf, tOf, tNo, tBoth, tAny, eBoth, eAny, eNo, eNeg, eChain, eLst, lDisp, runD, startF, slotOf, Tg.put, Tg.puts, e1, sPar2, eSl, eBits, eVar, oSome, oNone, List.map_cons, List.map_nil, List.length_cons, List.length_nil, List.replicate, List.cons_append, List.nil_append, List.append_nil, List.getElem?_cons_zero, List.getElem?_cons_succ, List.set_cons_zero, List.set_cons_succ, Option.map_some, Option.bind_some, lim0, lim1, lim2, lim3, lim4, lim5, lim6, lim7, lim8, lim9, lim10, lim11, Nat.reduceAdd, Nat.reduceSub, Nat.reduceLT, Nat.reduceEqDiff, if_true, if_false, eq_self, decide_true, decide_false, Bool.false_eq_true, Bool.not_true, Bool.not_false, and_self, and_true, true_and, Nat.zero_lt_succ, Nat.lt_add_one, List.nodup_nil, List.nodup_cons, List.not_mem_nil, not_false_eq_true, add_ok, if_pos hl]
  have hys : ys.length = most + 1 := by rw [k4, rangeD_len]; omega
  have hcmp := comp_ok (T := .nm 2) (tt := M.ret true) hit rfl k1 (lim_of (by omega))
  have hback : backF (F c1 none) (F c4 o2) (Tg.nm 2).slots = F c4 none := rfl
  rw [hback] at hcmp
  obtain ⟨r, er, hr⟩ := frs_of ys k5
  subst er
  rw [List.length_map] at hys
  refine ⟨st, r, c4, ?_, k3, hr, hys⟩
  have ft : ∀ p : List Rat, fTup [.lst (p.map fr)] = some (po p) := fun _ => rfl
  simp only [F] at hcmp
  simp only [m__law_drawn_making, g__law_drawn_making, mk, ↓hcmp, hcmp, M.bnd, M.ret, M.stk, sSeq, sRet, sRetN, sIf, sSet, sExpr, sNx, eVar, eC, eBin, eFn, endFn, argF, slotsOf, wr, wr1, outsF, aCons, aNil, eTup, datas, eCal, snaps, snap, handed, eIf, tOf, tNo, tBoth, tAny, eBoth, eAny, eNo, eNeg, eChain, eLst, lDisp, runD, startF, slotOf, Tg.put, Tg.puts, e1, sPar2, eSl, eBits, eVar, oSome, oNone, List.map_cons, List.map_nil, List.length_cons, List.length_nil, List.replicate, List.cons_append, List.nil_append, List.append_nil, List.getElem?_cons_zero, List.getElem?_cons_succ, List.set_cons_zero, List.set_cons_succ, Option.map_some, Option.bind_some, lim0, lim1, lim2, lim3, lim4, lim5, lim6, lim7, lim8, lim9, lim10, lim11, Nat.reduceAdd, Nat.reduceSub, Nat.reduceLT, Nat.reduceEqDiff, if_true, if_false, eq_self, decide_true, decide_false, Bool.false_eq_true, Bool.not_true, Bool.not_false, and_self, and_true, true_and, Nat.zero_lt_succ, Nat.lt_add_one, List.nodup_nil, List.nodup_cons, List.not_mem_nil, not_false_eq_true, e1, ft]
/-! ### symbols -/
def combL : Nat → List Rat
  | 1 => [1, 1]
  | 2 => [1, 2, 1]
  | 3 => [1, 3, 3, 1]
  | 4 => [1, 4, 6, 4, 1]
  | 5 => [1, 5, 10, 10, 5, 1]
  | 6 => [1, 6, 15, 20, 15, 6, 1]
  | _ => []
def powL (m : Nat) : List Rat := List.replicate m 0 ++ [1]
def baseL (st : Bool) (m : Nat) : List Rat := if st then combL m else powL m
theorem one6 {m : Nat} (h1 : 1 ≤ m) (h2 : m ≤ 6) : m = 1 ∨ m = 2 ∨ m = 3 ∨ m = 4 ∨ m = 5 ∨ m = 6 := by omega
theorem comb_comp {m : Nat} (h1 : 1 ≤ m) (h2 : m ≤ 6) (a b c : DV) : lComp (.nm 4) i_symbol_by_1 (M.ret true) x_symbol_by_1 [some (.d a), some (.d b), some (.d c), some (.d (.int (m : Nat))), none] = some (.ok ((combL m).map fr), [some (.d a), some (.d b), some (.d c), some (.d (.int (m : Nat))), none]) := by
  rcases one6 h1 h2 with e | e | e | e | e | e <;> subst e <;> kernel_rfl
theorem roots_comb {m : Nat} (h1 : 1 ≤ m) (h2 : m ≤ 6) : m__law_rooted [.d (.tup (List.replicate m (.tup [.int (-1), .int 1])))] = some (.ok (po (combL m)), []) := by
  rcases one6 h1 h2 with e | e | e | e | e | e <;> subst e <;> kernel_rfl
theorem base_fit {m : Nat} {ns : List Rat} (st : Bool) (h1 : 1 ≤ m) (h2 : m ≤ 6) (hn : Bp 6 36 ns) (hl : ns.length = m + 1) : Fit ns (baseL st m) := by
  have up : ∀ q, Bd 1 20 q → Bd (2 * DP) (4 * BQ) q := fun q hq => bd_to (k := 2 * DP) hq (by decide) (by decide) (by decide)
  refine ⟨hn, by omega, fun q hq => up q ?_, ?_⟩
  · cases st with
    | true =>
      have key : ∀ m, m ≤ 6 → ∀ q ∈ combL m, ∃ z : Int, q = mkRat z 1 ∧ z.natAbs ≤ 20 := by
        intro m hm q hq
        have : m = 0 ∨ m = 1 ∨ m = 2 ∨ m = 3 ∨ m = 4 ∨ m = 5 ∨ m = 6 := by omega
        rcases this with e | e | e | e | e | e | e <;> subst e <;> simp only [combL, List.mem_cons, List.not_mem_nil, or_false] at hq
        · rcases hq with hq | hq <;> subst hq <;> exact ⟨1, rfl, by decide⟩
        · rcases hq with hq | hq | hq <;> subst hq <;> first | exact ⟨1, rfl, by decide⟩ | exact ⟨2, rfl, by decide⟩
        · rcases hq with hq | hq | hq | hq <;> subst hq <;> first | exact ⟨1, rfl, by decide⟩ | exact ⟨3, rfl, by decide⟩
        · rcases hq with hq | hq | hq | hq | hq <;> subst hq <;> first | exact ⟨1, rfl, by decide⟩ | exact ⟨4, rfl, by decide⟩ | exact ⟨6, rfl, by decide⟩
        · rcases hq with hq | hq | hq | hq | hq | hq <;> subst hq <;> first | exact ⟨1, rfl, by decide⟩ | exact ⟨5, rfl, by decide⟩ | exact ⟨10, rfl, by decide⟩
        · rcases hq with hq | hq | hq | hq | hq | hq | hq <;> subst hq <;> first | exact ⟨1, rfl, by decide⟩ | exact ⟨6, rfl, by decide⟩ | exact ⟨15, rfl, by decide⟩ | exact ⟨20, rfl, by decide⟩
      exact key m h2 q hq
    | false =>
      have hq' : q ∈ powL m := hq
      unfold powL at hq'
      rcases List.mem_append.mp hq' with hq' | hq'
      · rw [List.eq_of_mem_replicate hq']; exact bd_zero 20
      · have : q = 1 := by simpa using hq'
        rw [this]; exact bd_mono (by decide) (bd_one 1 (by decide))
  · cases st with
    | true =>
      rcases one6 h1 h2 with e | e | e | e | e | e <;> subst e <;> decide
    | false =>
      show (powL m).length ≤ 7
      simp [powL]; omega
theorem pow_mul {m : Nat} (hm : m ≤ 50) : gMul (.tup [.tup [.int 0, .int 1]]) (.int (m : Nat)) = some (.tup ((List.replicate m (0 : Rat)).map fr)) := by
  show (if ((m : Nat) : Int) ≤ 1000 ∧ -1000 ≤ ((m : Nat) : Int) ∧ [DV.tup [.int 0, .int 1]].length ≤ 1000 then some (DV.tup (List.replicate ((m : Nat) : Int).toNat [DV.tup [.int 0, .int 1]]).flatten) else none) = _
  rw [if_pos ⟨by omega, by omega, by decide⟩, Int.toNat_natCast]
  congr 2
  induction m with
  | zero => rfl
  | succ m ih => rw [List.replicate_succ, List.flatten_cons, ih (by omega), List.replicate_succ]; rfl
theorem pow_cat {m : Nat} (hm : m ≤ 6) : gAdd (.tup ((List.replicate m (0 : Rat)).map fr)) (.tup [.tup [.int 1, .int 1]]) = some (po (powL m)) := by
  rw [tcat (by simp; omega)]
  unfold po powL
  rw [List.map_append]
  rfl
theorem t_power {m : Nat} (hm : m ≤ 6) : m_power_poly [.d (.int (m : Nat))] = some (.ok (po (powL m)), []) := by
  have e1 : gMul (.tup [c_NOUGHT]) (.int (m : Nat)) = some (.tup ((List.replicate m (0 : Rat)).map fr)) := pow_mul (by omega)
  have e2 : gAdd (.tup ((List.replicate m (0 : Rat)).map fr)) (.tup [c_ONE]) = some (po (powL m)) := pow_cat hm
  simp only [m_power_poly, g_power_poly, M.bnd, M.ret, M.stk, sSeq, sRet, sRetN, sIf, sSet, sExpr, sNx, eVar, eC, eBin, eFn, endFn, argF, slotsOf, wr, wr1, outsF, aCons, aNil, eTup, datas, eCal, snaps, snap, handed, eIf, tOf, tNo, tBoth, tAny, eBoth, eAny, eNo, eNeg, eChain, eLst, lDisp, runD, startF, slotOf, Tg.put, Tg.puts, e1, sPar2, eSl, eBits, eVar, oSome, oNone, List.map_cons, List.map_nil, List.length_cons, List.length_nil, List.replicate, List.cons_append, List.nil_append, List.append_nil, List.getElem?_cons_zero, List.getElem?_cons_succ, List.set_cons_zero, List.set_cons_succ, Option.map_some, Option.bind_some, lim0, lim1, lim2, lim3, lim4, lim5, lim6, lim7, lim8, lim9, lim10, lim11, Nat.reduceAdd, Nat.reduceSub, Nat.reduceLT, Nat.reduceEqDiff, if_true, if_false, eq_self, decide_true, decide_false, Bool.false_eq_true, Bool.not_true, Bool.not_false, and_self, and_true, true_and, Nat.zero_lt_succ, Nat.lt_add_one, List.nodup_nil, List.nodup_cons, List.not_mem_nil, not_false_eq_true, e1, e2]
theorem eq_S2 (st : Bool) : gEq (.str (wd st)) c_STEPS = some (.bl (!st)) := by cases st <;> first | rfl | decide | kernel_rfl
theorem t_symbol {m : Nat} {st : Bool} {ns : List Rat} (h1 : 1 ≤ m) (h2 : m ≤ 6) (hn : Bp 6 36 ns) (hl : ns.length = m + 1) : m_symbol [.d (.int (m : Nat)), .d (mk st ns)] = some (.ok (po (madeL st ns (baseL st m))), []) := by
  have hf := base_fit st h1 h2 hn hl
  have ⟨sn, _⟩ := fit_sm hf
  have e1 : gSub (.int (ns.length : Nat)) (.int 1) = some (.int (m : Nat)) := by
    rw [sub_ok, hl]; congr 2; omega
  have e0 : m_symbol_by [.d (mk st ns)] = some (.ok (po (madeL st ns (baseL st m))), []) := by
    have e3 := t_made_by (st := st) hf
    cases st with
    | true =>
      have hcmp := comb_comp h1 h2 (mk true ns) (.str (wd true)) (po ns)
      have ft : fTup [.lst ((combL m).map fr)] = some (po (combL m)) := rfl
      have e3' : m_made_by [.d (mk true ns), .d (po (combL m))] = some (.ok (po (madeL true ns (baseL true m))), []) := e3
      simp only [mk] at hcmp e3'
      simp only [m_symbol_by, g_symbol_by, mk, ↓hcmp, hcmp, M.bnd, M.ret, M.stk, sSeq, sRet, sRetN, sIf, sSet, sExpr, sNx, eVar, eC, eBin, eFn, endFn, argF, slotsOf, wr, wr1, outsF, aCons, aNil, eTup, datas, eCal, snaps, snap, handed, eIf, tOf, tNo, tBoth, tAny, eBoth, eAny, eNo, eNeg, eChain, eLst, lDisp, runD, startF, slotOf, Tg.put, Tg.puts, e1, sPar2, eSl, eBits, eVar, oSome, oNone, List.map_cons, List.map_nil, List.length_cons, List.length_nil, List.replicate, List.cons_append, List.nil_append, List.append_nil, List.getElem?_cons_zero, List.getElem?_cons_succ, List.set_cons_zero, List.set_cons_succ, Option.map_some, Option.bind_some, lim0, lim1, lim2, lim3, lim4, lim5, lim6, lim7, lim8, lim9, lim10, lim11, Nat.reduceAdd, Nat.reduceSub, Nat.reduceLT, Nat.reduceEqDiff, if_true, if_false, eq_self, decide_true, decide_false, Bool.false_eq_true, Bool.not_true, Bool.not_false, and_self, and_true, true_and, Nat.zero_lt_succ, Nat.lt_add_one, List.nodup_nil, List.nodup_cons, List.not_mem_nil, not_false_eq_true, len_po, e1, eq_S2, ft, e3']
    | false =>
      have e3' : m_made_by [.d (mk false ns), .d (po (powL m))] = some (.ok (po (madeL false ns (baseL false m))), []) := e3
      simp only [mk] at e3'
      simp only [m_symbol_by, g_symbol_by, mk, M.bnd, M.ret, M.stk, sSeq, sRet, sRetN, sIf, sSet, sExpr, sNx, eVar, eC, eBin, eFn, endFn, argF, slotsOf, wr, wr1, outsF, aCons, aNil, eTup, datas, eCal, snaps, snap, handed, eIf, tOf, tNo, tBoth, tAny, eBoth, eAny, eNo, eNeg, eChain, eLst, lDisp, runD, startF, slotOf, Tg.put, Tg.puts, e1, sPar2, eSl, eBits, eVar, oSome, oNone, List.map_cons, List.map_nil, List.length_cons, List.length_nil, List.replicate, List.cons_append, List.nil_append, List.append_nil, List.getElem?_cons_zero, List.getElem?_cons_succ, List.set_cons_zero, List.set_cons_succ, Option.map_some, Option.bind_some, lim0, lim1, lim2, lim3, lim4, lim5, lim6, lim7, lim8, lim9, lim10, lim11, Nat.reduceAdd, Nat.reduceSub, Nat.reduceLT, Nat.reduceEqDiff, if_true, if_false, eq_self, decide_true, decide_false, Bool.false_eq_true, Bool.not_true, Bool.not_false, and_self, and_true, true_and, Nat.zero_lt_succ, Nat.lt_add_one, List.nodup_nil, List.nodup_cons, List.not_mem_nil, not_false_eq_true, len_po, e1, eq_S2, t_power h2, e3']
  simp only [m_symbol, g_symbol, M.bnd, M.ret, M.stk, sSeq, sRet, sRetN, sIf, sSet, sExpr, sNx, eVar, eC, eBin, eFn, endFn, argF, slotsOf, wr, wr1, outsF, aCons, aNil, eTup, datas, eCal, snaps, snap, handed, eIf, tOf, tNo, tBoth, tAny, eBoth, eAny, eNo, eNeg, eChain, eLst, lDisp, runD, startF, slotOf, Tg.put, Tg.puts, e1, sPar2, eSl, eBits, eVar, oSome, oNone, List.map_cons, List.map_nil, List.length_cons, List.length_nil, List.replicate, List.cons_append, List.nil_append, List.append_nil, List.getElem?_cons_zero, List.getElem?_cons_succ, List.set_cons_zero, List.set_cons_succ, Option.map_some, Option.bind_some, lim0, lim1, lim2, lim3, lim4, lim5, lim6, lim7, lim8, lim9, lim10, lim11, Nat.reduceAdd, Nat.reduceSub, Nat.reduceLT, Nat.reduceEqDiff, if_true, if_false, eq_self, decide_true, decide_false, Bool.false_eq_true, Bool.not_true, Bool.not_false, and_self, and_true, true_and, Nat.zero_lt_succ, Nat.lt_add_one, List.nodup_nil, List.nodup_cons, List.not_mem_nil, not_false_eq_true, t_check_making h1 h2 sn hl, e0]
end L50
set_option maxRecDepth 100000
set_option maxHeartbeats 1000000
namespace L50
open PySem DL
theorem seq_step {f g : SF} {fr f1 : Frm} {r : Option (Rs Out × Frm)} (h1 : f fr = some (.ok .nx, f1)) (h2 : g f1 = r) : sSeq f g fr = r := by
  unfold sSeq M.bnd
  simp only [h1, h2]
theorem near_loop {m : Nat} {o1 o3 o5 o6 o7 o8 : Option SV} (h1 : 1 ≤ m) (h2 : m ≤ 6) : ∀ (vs : List DV) (c : List DV) (o4 : Option SV), (∀ v ∈ vs, ∃ b, Near m v b) → Cask c → ∃ c' o4', forLoop (.nm 4) b__law_right_1 vs [some (.own false c), o1, some (.d (.int (m : Nat))), o3, o4, o5, o6, o7, o8] = some (.ok .nx, [some (.own false c'), o1, some (.d (.int (m : Nat))), o3, o4', o5, o6, o7, o8]) ∧ Cask c'
  | [], c, o4, _, hc => ⟨c, o4, rfl, hc⟩
  | v :: vs, c, o4, hv, hc => by
    obtain ⟨b, nb1, nb2⟩ := hv v (List.mem_cons_self ..)
    obtain ⟨t, c2, e2, hc2, ht⟩ := t_tap (l := false) (many := 2) hc (by decide) (by decide)
    have e2' : m__law_tap [.own false c, .d (.int 2)] = some (.ok (.int (t : Nat)), [c2]) := e2
    have e3 := t_is_making h1 h2 nb1
    obtain ⟨c', o4', e, hc'⟩ := near_loop (o1 := o1) (o3 := o3) (o5 := o5) (o6 := o6) (o7 := o7) (o8 := o8) h1 h2 vs c2 (some (.d v)) (fun x hx => hv x (List.mem_cons_of_mem _ hx)) hc2
    refine ⟨c', o4', ?_, hc'⟩
    by_cases z : ((t : Nat) : Int) = 0
    · have q : gEq (.int (t : Nat)) (.int 0) = some (.bl true) := by rw [eq_ok, z]; rfl
      simp only [forLoop, b__law_right_1, M.bnd, M.ret, M.stk, sSeq, sRet, sRetN, sIf, sSet, sExpr, sNx, eVar, eC, eBin, eFn, endFn, argF, slotsOf, wr, wr1, outsF, aCons, aNil, eTup, datas, eCal, snaps, snap, handed, eIf, tOf, tNo, tBoth, tAny, eBoth, eAny, eNo, eNeg, eChain, eLst, lDisp, runD, startF, slotOf, Tg.put, Tg.puts, e1, sPar2, eSl, eBits, eVar, oSome, oNone, List.map_cons, List.map_nil, List.length_cons, List.length_nil, List.replicate, List.cons_append, List.nil_append, List.append_nil, List.getElem?_cons_zero, List.getElem?_cons_succ, List.set_cons_zero, List.set_cons_succ, Option.map_some, Option.bind_some, lim0, lim1, lim2, lim3, lim4, lim5, lim6, lim7, lim8, lim9, lim10, lim11, Nat.reduceAdd, Nat.reduceSub, Nat.reduceLT, Nat.reduceEqDiff, if_true, if_false, eq_self, decide_true, decide_false, Bool.false_eq_true, Bool.not_true, Bool.not_false, and_self, and_true, true_and, Nat.zero_lt_succ, Nat.lt_add_one, List.nodup_nil, List.nodup_cons, List.not_mem_nil, not_false_eq_true, e2', q, e3, nb2, t_alike_bl]
      exact e
    · have q : gEq (.int (t : Nat)) (.int 0) = some (.bl false) := by
        rw [eq_ok, show (((t : Nat) : Int) == 0) = false by rw [beq_eq_false_iff_ne]; exact z]
      simp only [forLoop, b__law_right_1, eFnK, pick, M.bnd, M.ret, M.stk, sSeq, sRet, sRetN, sIf, sSet, sExpr, sNx, eVar, eC, eBin, eFn, endFn, argF, slotsOf, wr, wr1, outsF, aCons, aNil, eTup, datas, eCal, snaps, snap, handed, eIf, tOf, tNo, tBoth, tAny, eBoth, eAny, eNo, eNeg, eChain, eLst, lDisp, runD, startF, slotOf, Tg.put, Tg.puts, e1, sPar2, eSl, eBits, eVar, oSome, oNone, List.map_cons, List.map_nil, List.length_cons, List.length_nil, List.replicate, List.cons_append, List.nil_append, List.append_nil, List.getElem?_cons_zero, List.getElem?_cons_succ, List.set_cons_zero, List.set_cons_succ, Option.map_some, Option.bind_some, lim0, lim1, lim2, lim3, lim4, lim5, lim6, lim7, lim8, lim9, lim10, lim11, Nat.reduceAdd, Nat.reduceSub, Nat.reduceLT, Nat.reduceEqDiff, if_true, if_false, eq_self, decide_true, decide_false, Bool.false_eq_true, Bool.not_true, Bool.not_false, and_self, and_true, true_and, Nat.zero_lt_succ, Nat.lt_add_one, List.nodup_nil, List.nodup_cons, List.not_mem_nil, not_false_eq_true, e2', q, e3, nb2, t_alike_bl]
      exact e
theorem fit_one {ns p : List Rat} (hn : Bp 6 36 ns) (hl : ns.length ≤ 7) (hp : Bp DP BQ p) (lp : p.length ≤ 7) : Fit ns p := ⟨hn, hl, fun q hq => bd_to (k := 2) (hp q hq) (by decide) (by decide) (by omega), lp⟩
theorem fit_sum {ns p q : List Rat} (hn : Bp 6 36 ns) (hl : ns.length ≤ 7) (hp : Bp DP BQ p) (hq : Bp DP BQ q) (lp : p.length ≤ 7) (lq : q.length ≤ 7) : Fit ns (trim (addL p q)) := ⟨hn, hl, fun x hx => by
  have := (bp_addL (by decide) hp hq) x (trim_sub _ x hx)
  exact bd_to (k := 2) this (by decide) (by decide) (by omega), Nat.le_trans (trim_len _) (by rw [len_addL]; omega)⟩
theorem pol_of {p : List Rat} {m : Nat} (hm : m ≤ 12) (ht : trim p = p) (hs : Sms p) (hl : p.length ≤ m + 1) : Pol p 13 := ⟨ht, hs, by omega⟩
theorem right_body {c : List DV} {o1 o2 o3 o4 o5 o6 o7 o8 : Option SV} (hc : Cask c) : ∃ c' x2 x3 x4 x5 x6 x7 x8, b__law_right_2 [some (.own false c), o1, o2, o3, o4, o5, o6, o7, o8] = some (.ok .nx, [some (.own false c'), o1, x2, x3, x4, x5, x6, x7, x8]) ∧ Cask c' := by
  -- most
  obtain ⟨t, c1, e1, hc1, ht⟩ := t_tap (l := false) (many := 6) hc (by decide) (by decide)
  have e1' : m__law_tap [.own false c, .d (.int 6)] = some (.ok (.int (t : Nat)), [c1]) := e1
  have a1 : gAdd (.int 1) (.int (t : Nat)) = some (.int ((t + 1 : Nat) : Int)) := by rw [add_ok]; congr 2; omega
  -- making
  obtain ⟨st, ns, c2, e2, hc2, hn, hl⟩ := t_dmaking (l := false) (most := t + 1) hc1 (by omega)
  have sn : Sms ns := fun q hq => sm36 (hn q hq)
  -- near ones
  obtain ⟨u, c3, e3, hc3, hu⟩ := t_near (l := false) (N := ns.map fr) (st := st) hc2 (by rw [List.length_map]; omega) (by rw [List.length_map]; omega)
  have e3' : m__law_near [.own false c2, .d (mk st ns)] = some (.ok (.lst ((nearA (wd st) (ns.map fr) ++ nearB (wd st) (ns.map fr) ++ [.tup [.str (wd (!st)), .tup (ns.map fr)]]) ++ nearD (wd st) (ns.map fr) u)), [c3]) := e3
  have hall := near_all (m := t + 1) (t := u) (st := st) sn hl (by omega) (by rw [List.length_map] at hu; exact hu)
  obtain ⟨c4, x4, e4, hc4⟩ := near_loop (m := t + 1) (o1 := o1) (o3 := some (.d (mk st ns))) (o5 := o5) (o6 := o6) (o7 := o7) (o8 := o8) (by omega) (by omega) _ c3 o4 hall hc3
  -- polys
  obtain ⟨p, c5, e5, hc5, pt, pb, plen⟩ := t_dpoly (l := false) (most := t + 1) hc4 (by omega)
  obtain ⟨q, c6, e6, hc6, qt, qb, qlen⟩ := t_dpoly (l := false) (most := t + 1) hc5 (by omega)
  have fp := fit_one hn (by omega) pb (by omega)
  have fq := fit_one hn (by omega) qb (by omega)
  have fs := fit_sum hn (by omega) pb qb (by omega) (by omega)
  have ⟨_, sp⟩ := fit_sm fp
  have ⟨_, sq⟩ := fit_sm fq
  have mp := t_made (m := t + 1) (st := st) (by omega) (by omega) hl fp pt plen
  have mq := t_made (m := t + 1) (st := st) (by omega) (by omega) hl fq qt qlen
  have ms := t_made (m := t + 1) (st := st) (by omega) (by omega) hl fs (trim_trim _) (Nat.le_trans (trim_len _) (by rw [len_addL]; omega))
  have lp := made_len (st := st) (ns := ns) (p := p) plen
  have lq := made_len (st := st) (ns := ns) (p := q) qlen
  have smp := made_sm (st := st) fp
  have smq := made_sm (st := st) fq
  -- told
  obtain ⟨t2, c7, e7, hc7, _⟩ := t_tap (l := false) (many := 2) hc6 (by decide) (by decide)
  have e7' : m__law_tap [.own false c6, .d (.int 2)] = some (.ok (.int (t2 : Nat)), [c7]) := e7
  -- the last tap
  obtain ⟨t3, c8, e8, hc8, _⟩ := t_tap (l := false) (many := 2) hc7 (by decide) (by decide)
  have e8' : m__law_tap [.own false c7, .d (.int 2)] = some (.ok (.int (t3 : Nat)), [c8]) := e8
  refine ⟨c8, some (.d (.int ((t + 1 : Nat) : Int))), some (.d (mk st ns)), x4, some (.d (po p)), some (.d (po q)), some (.d (po (madeL st ns p))), some (.d (po (baseL st (t + 1)))), ?_, hc8⟩
  have K : ∀ (x : Nat), gEq (.int (x : Nat)) (.int 0) = some (.bl (decide (x = 0))) := fun x => by
    rw [eq_ok]
    congr 2
    by_cases z : x = 0
    · subst z; rfl
    · rw [decide_eq_false z, beq_eq_false_iff_ne]; omega
  unfold b__law_right_2
  refine seq_step (f1 := [some (.own false c1), o1, some (.d (.int ((t + 1 : Nat) : Int))), o3, o4, o5, o6, o7, o8]) ?_ ?_
  · simp only [M.bnd, M.ret, M.stk, sSeq, sRet, sRetN, sIf, sSet, sExpr, sNx, eVar, eC, eBin, eFn, endFn, argF, slotsOf, wr, wr1, outsF, aCons, aNil, eTup, datas, eCal, snaps, snap, handed, eIf, tOf, tNo, tBoth, tAny, eBoth, eAny, eNo, eNeg, eChain, eLst, lDisp, runD, startF, slotOf, Tg.put, Tg.puts, e1, sPar2, eSl, eBits, eVar, oSome, oNone, List.map_cons, List.map_nil, List.length_cons, List.length_nil, List.replicate, List.cons_append, List.nil_append, List.append_nil, List.getElem?_cons_zero, List.getElem?_cons_succ, List.set_cons_zero, List.set_cons_succ, Option.map_some, Option.bind_some, lim0, lim1, lim2, lim3, lim4, lim5, lim6, lim7, lim8, lim9, lim10, lim11, Nat.reduceAdd, Nat.reduceSub, Nat.reduceLT, Nat.reduceEqDiff, if_true, if_false, eq_self, decide_true, decide_false, Bool.false_eq_true, Bool.not_true, Bool.not_false, and_self, and_true, true_and, Nat.zero_lt_succ, Nat.lt_add_one, List.nodup_nil, List.nodup_cons, List.not_mem_nil, not_false_eq_true, e1', a1]
  refine seq_step (f1 := [some (.own false c2), o1, some (.d (.int ((t + 1 : Nat) : Int))), some (.d (mk st ns)), o4, o5, o6, o7, o8]) ?_ ?_
  · simp only [M.bnd, M.ret, M.stk, sSeq, sRet, sRetN, sIf, sSet, sExpr, sNx, eVar, eC, eBin, eFn, endFn, argF, slotsOf, wr, wr1, outsF, aCons, aNil, eTup, datas, eCal, snaps, snap, handed, eIf, tOf, tNo, tBoth, tAny, eBoth, eAny, eNo, eNeg, eChain, eLst, lDisp, runD, startF, slotOf, Tg.put, Tg.puts, e1, sPar2, eSl, eBits, eVar, oSome, oNone, List.map_cons, List.map_nil, List.length_cons, List.length_nil, List.replicate, List.cons_append, List.nil_append, List.append_nil, List.getElem?_cons_zero, List.getElem?_cons_succ, List.set_cons_zero, List.set_cons_succ, Option.map_some, Option.bind_some, lim0, lim1, lim2, lim3, lim4, lim5, lim6, lim7, lim8, lim9, lim10, lim11, Nat.reduceAdd, Nat.reduceSub, Nat.reduceLT, Nat.reduceEqDiff, if_true, if_false, eq_self, decide_true, decide_false, Bool.false_eq_true, Bool.not_true, Bool.not_false, and_self, and_true, true_and, Nat.zero_lt_succ, Nat.lt_add_one, List.nodup_nil, List.nodup_cons, List.not_mem_nil, not_false_eq_true, e2]
  refine seq_step (f1 := [some (.own false c4), o1, some (.d (.int ((t + 1 : Nat) : Int))), some (.d (mk st ns)), x4, o5, o6, o7, o8]) ?_ ?_
  · simp only [sFor, i__law_right_1, iOf, seqOf, M.of, M.bnd, M.ret, M.stk, sSeq, sRet, sRetN, sIf, sSet, sExpr, sNx, eVar, eC, eBin, eFn, endFn, argF, slotsOf, wr, wr1, outsF, aCons, aNil, eTup, datas, eCal, snaps, snap, handed, eIf, tOf, tNo, tBoth, tAny, eBoth, eAny, eNo, eNeg, eChain, eLst, lDisp, runD, startF, slotOf, Tg.put, Tg.puts, e1, sPar2, eSl, eBits, eVar, oSome, oNone, List.map_cons, List.map_nil, List.length_cons, List.length_nil, List.replicate, List.cons_append, List.nil_append, List.append_nil, List.getElem?_cons_zero, List.getElem?_cons_succ, List.set_cons_zero, List.set_cons_succ, Option.map_some, Option.bind_some, lim0, lim1, lim2, lim3, lim4, lim5, lim6, lim7, lim8, lim9, lim10, lim11, Nat.reduceAdd, Nat.reduceSub, Nat.reduceLT, Nat.reduceEqDiff, if_true, if_false, eq_self, decide_true, decide_false, Bool.false_eq_true, Bool.not_true, Bool.not_false, and_self, and_true, true_and, Nat.zero_lt_succ, Nat.lt_add_one, List.nodup_nil, List.nodup_cons, List.not_mem_nil, not_false_eq_true, e3', Option.map_some]
    exact e4
  refine seq_step (f1 := [some (.own false c4), o1, some (.d (.int ((t + 1 : Nat) : Int))), some (.d (mk st ns)), x4, o5, o6, o7, o8]) ?_ ?_
  · have lt6 : gLt (.int ((t + 1 : Nat) : Int)) (.int 6) = some (.bl (decide (((t + 1 : Nat) : Int) < 6))) := lt_ok
    have is_no : ∀ m' : Nat, 1 ≤ m' → m' ≤ 6 → m' ≠ t + 1 → m_is_making [.d (.int (m' : Nat)), .d (mk st ns)] = some (.ok (.bl false), []) := fun m' g1 g2 g3 => by
      have := is_mk (m := m') (st := st) sn (by omega)
      rw [decide_eq_false (by omega)] at this
      exact t_is_making g1 g2 this
    have isb : isB true (.bl false) (.bl false) = some (.bl false) := rfl
    by_cases z : ((t + 1 : Nat) : Int) < 6
    · have n1 := is_no (t + 2) (by omega) (by omega) (by omega)
      have a2 : gAdd (.int ((t + 1 : Nat) : Int)) (.int 1) = some (.int ((t + 2 : Nat) : Int)) := by rw [add_ok]; congr 2
      simp only [M.bnd, M.ret, M.stk, sSeq, sRet, sRetN, sIf, sSet, sExpr, sNx, eVar, eC, eBin, eFn, endFn, argF, slotsOf, wr, wr1, outsF, aCons, aNil, eTup, datas, eCal, snaps, snap, handed, eIf, tOf, tNo, tBoth, tAny, eBoth, eAny, eNo, eNeg, eChain, eLst, lDisp, runD, startF, slotOf, Tg.put, Tg.puts, e1, sPar2, eSl, eBits, eVar, oSome, oNone, List.map_cons, List.map_nil, List.length_cons, List.length_nil, List.replicate, List.cons_append, List.nil_append, List.append_nil, List.getElem?_cons_zero, List.getElem?_cons_succ, List.set_cons_zero, List.set_cons_succ, Option.map_some, Option.bind_some, lim0, lim1, lim2, lim3, lim4, lim5, lim6, lim7, lim8, lim9, lim10, lim11, Nat.reduceAdd, Nat.reduceSub, Nat.reduceLT, Nat.reduceEqDiff, if_true, if_false, eq_self, decide_true, decide_false, Bool.false_eq_true, Bool.not_true, Bool.not_false, and_self, and_true, true_and, Nat.zero_lt_succ, Nat.lt_add_one, List.nodup_nil, List.nodup_cons, List.not_mem_nil, not_false_eq_true, lt6, decide_eq_true z, a2, n1, isb]
    · have n1 : m_is_making [.d (.int 5), .d (mk st ns)] = some (.ok (.bl false), []) := is_no 5 (by decide) (by decide) (by omega)
      simp only [M.bnd, M.ret, M.stk, sSeq, sRet, sRetN, sIf, sSet, sExpr, sNx, eVar, eC, eBin, eFn, endFn, argF, slotsOf, wr, wr1, outsF, aCons, aNil, eTup, datas, eCal, snaps, snap, handed, eIf, tOf, tNo, tBoth, tAny, eBoth, eAny, eNo, eNeg, eChain, eLst, lDisp, runD, startF, slotOf, Tg.put, Tg.puts, e1, sPar2, eSl, eBits, eVar, oSome, oNone, List.map_cons, List.map_nil, List.length_cons, List.length_nil, List.replicate, List.cons_append, List.nil_append, List.append_nil, List.getElem?_cons_zero, List.getElem?_cons_succ, List.set_cons_zero, List.set_cons_succ, Option.map_some, Option.bind_some, lim0, lim1, lim2, lim3, lim4, lim5, lim6, lim7, lim8, lim9, lim10, lim11, Nat.reduceAdd, Nat.reduceSub, Nat.reduceLT, Nat.reduceEqDiff, if_true, if_false, eq_self, decide_true, decide_false, Bool.false_eq_true, Bool.not_true, Bool.not_false, and_self, and_true, true_and, Nat.zero_lt_succ, Nat.lt_add_one, List.nodup_nil, List.nodup_cons, List.not_mem_nil, not_false_eq_true, lt6, decide_eq_false z, n1, isb]
  refine seq_step (f1 := [some (.own false c6), o1, some (.d (.int ((t + 1 : Nat) : Int))), some (.d (mk st ns)), x4, some (.d (po p)), some (.d (po q)), o7, o8]) ?_ ?_
  · simp only [M.bnd, M.ret, M.stk, sSeq, sRet, sRetN, sIf, sSet, sExpr, sNx, eVar, eC, eBin, eFn, endFn, argF, slotsOf, wr, wr1, outsF, aCons, aNil, eTup, datas, eCal, snaps, snap, handed, eIf, tOf, tNo, tBoth, tAny, eBoth, eAny, eNo, eNeg, eChain, eLst, lDisp, runD, startF, slotOf, Tg.put, Tg.puts, e1, sPar2, eSl, eBits, eVar, oSome, oNone, List.map_cons, List.map_nil, List.length_cons, List.length_nil, List.replicate, List.cons_append, List.nil_append, List.append_nil, List.getElem?_cons_zero, List.getElem?_cons_succ, List.set_cons_zero, List.set_cons_succ, Option.map_some, Option.bind_some, lim0, lim1, lim2, lim3, lim4, lim5, lim6, lim7, lim8, lim9, lim10, lim11, Nat.reduceAdd, Nat.reduceSub, Nat.reduceLT, Nat.reduceEqDiff, if_true, if_false, eq_self, decide_true, decide_false, Bool.false_eq_true, Bool.not_true, Bool.not_false, and_self, and_true, true_and, Nat.zero_lt_succ, Nat.lt_add_one, List.nodup_nil, List.nodup_cons, List.not_mem_nil, not_false_eq_true, e5, e6]
  refine seq_step (f1 := [some (.own false c7), o1, some (.d (.int ((t + 1 : Nat) : Int))), some (.d (mk st ns)), x4, some (.d (po p)), some (.d (po q)), some (.d (po (madeL st ns p))), o8]) ?_ ?_
  · by_cases z : t2 = 0
    · simp only [M.bnd, M.ret, M.stk, sSeq, sRet, sRetN, sIf, sSet, sExpr, sNx, eVar, eC, eBin, eFn, endFn, argF, slotsOf, wr, wr1, outsF, aCons, aNil, eTup, datas, eCal, snaps, snap, handed, eIf, tOf, tNo, tBoth, tAny, eBoth, eAny, eNo, eNeg, eChain, eLst, lDisp, runD, startF, slotOf, Tg.put, Tg.puts, e1, sPar2, eSl, eBits, eVar, oSome, oNone, List.map_cons, List.map_nil, List.length_cons, List.length_nil, List.replicate, List.cons_append, List.nil_append, List.append_nil, List.getElem?_cons_zero, List.getElem?_cons_succ, List.set_cons_zero, List.set_cons_succ, Option.map_some, Option.bind_some, lim0, lim1, lim2, lim3, lim4, lim5, lim6, lim7, lim8, lim9, lim10, lim11, Nat.reduceAdd, Nat.reduceSub, Nat.reduceLT, Nat.reduceEqDiff, if_true, if_false, eq_self, decide_true, decide_false, Bool.false_eq_true, Bool.not_true, Bool.not_false, and_self, and_true, true_and, Nat.zero_lt_succ, Nat.lt_add_one, List.nodup_nil, List.nodup_cons, List.not_mem_nil, not_false_eq_true, e7', K, decide_eq_true z, mp]
    · simp only [eFnK, pick, M.bnd, M.ret, M.stk, sSeq, sRet, sRetN, sIf, sSet, sExpr, sNx, eVar, eC, eBin, eFn, endFn, argF, slotsOf, wr, wr1, outsF, aCons, aNil, eTup, datas, eCal, snaps, snap, handed, eIf, tOf, tNo, tBoth, tAny, eBoth, eAny, eNo, eNeg, eChain, eLst, lDisp, runD, startF, slotOf, Tg.put, Tg.puts, e1, sPar2, eSl, eBits, eVar, oSome, oNone, List.map_cons, List.map_nil, List.length_cons, List.length_nil, List.replicate, List.cons_append, List.nil_append, List.append_nil, List.getElem?_cons_zero, List.getElem?_cons_succ, List.set_cons_zero, List.set_cons_succ, Option.map_some, Option.bind_some, lim0, lim1, lim2, lim3, lim4, lim5, lim6, lim7, lim8, lim9, lim10, lim11, Nat.reduceAdd, Nat.reduceSub, Nat.reduceLT, Nat.reduceEqDiff, if_true, if_false, eq_self, decide_true, decide_false, Bool.false_eq_true, Bool.not_true, Bool.not_false, and_self, and_true, true_and, Nat.zero_lt_succ, Nat.lt_add_one, List.nodup_nil, List.nodup_cons, List.not_mem_nil, not_false_eq_true, e7', K, decide_eq_false z, mp]
  refine seq_step (f1 := [some (.own false c7), o1, some (.d (.int ((t + 1 : Nat) : Int))), some (.d (mk st ns)), x4, some (.d (po p)), some (.d (po q)), some (.d (po (madeL st ns p))), o8]) ?_ ?_
  · have l1 := t_lmade (st := st) fp
    have l2 := t_lmade (st := st) fq
    have l3 := t_alike_two smp smq (by omega) (by omega)
    simp only [M.bnd, M.ret, M.stk, sSeq, sRet, sRetN, sIf, sSet, sExpr, sNx, eVar, eC, eBin, eFn, endFn, argF, slotsOf, wr, wr1, outsF, aCons, aNil, eTup, datas, eCal, snaps, snap, handed, eIf, tOf, tNo, tBoth, tAny, eBoth, eAny, eNo, eNeg, eChain, eLst, lDisp, runD, startF, slotOf, Tg.put, Tg.puts, e1, sPar2, eSl, eBits, eVar, oSome, oNone, List.map_cons, List.map_nil, List.length_cons, List.length_nil, List.replicate, List.cons_append, List.nil_append, List.append_nil, List.getElem?_cons_zero, List.getElem?_cons_succ, List.set_cons_zero, List.set_cons_succ, Option.map_some, Option.bind_some, lim0, lim1, lim2, lim3, lim4, lim5, lim6, lim7, lim8, lim9, lim10, lim11, Nat.reduceAdd, Nat.reduceSub, Nat.reduceLT, Nat.reduceEqDiff, if_true, if_false, eq_self, decide_true, decide_false, Bool.false_eq_true, Bool.not_true, Bool.not_false, and_self, and_true, true_and, Nat.zero_lt_succ, Nat.lt_add_one, List.nodup_nil, List.nodup_cons, List.not_mem_nil, not_false_eq_true, mq, l1, l2, l3]
  refine seq_step (f1 := [some (.own false c7), o1, some (.d (.int ((t + 1 : Nat) : Int))), some (.d (mk st ns)), x4, some (.d (po p)), some (.d (po q)), some (.d (po (madeL st ns p))), o8]) ?_ ?_
  · have s1 := t_poly_sum (pol_of (m := t + 1) (by omega) pt sp plen) (pol_of (m := t + 1) (by omega) qt sq qlen)
    have s2 := t_poly_sum (pol_of (m := t + 1) (by omega) made_tr smp lp) (pol_of (m := t + 1) (by omega) made_tr smq lq)
    rw [made_add] at ms
    have n1 : gNe (po (trim (addL (madeL st ns p) (madeL st ns q)))) (po (trim (addL (madeL st ns p) (madeL st ns q)))) = some (.bl false) := by rw [ne_po]; simp
    have g0 : gIx (mk st ns) (.int 0) = some (.str (wd st)) := rfl
    have a2 : gAdd (.int ((t + 1 : Nat) : Int)) (.int 1) = some (.int ((t + 2 : Nat) : Int)) := by rw [add_ok]; congr 2
    have p1 := pow_mul (m := t + 2) (by omega)
    have zf : Fit (List.replicate (t + 2) 0) p := ⟨fun x hx => by rw [List.eq_of_mem_replicate hx]; exact bd_zero 36, by simp; omega, fp.pb, fp.plen⟩
    have z1 := t_made (m := t + 1) (st := st) (by omega) (by omega) (by simp) zf pt plen
    rw [made_zero] at z1
    have z1' : m_made [.d (.int ((t + 1 : Nat) : Int)), .d (.tup [.str (wd st), .tup ((List.replicate (t + 2) (0 : Rat)).map fr)]), .d (po p)] = some (.ok (.tup []), []) := z1
    have n2 : gNe (.tup []) (.tup []) = some (.bl false) := rfl
    generalize (List.replicate (t + 2) (0 : Rat)).map fr = Z at p1 z1'
    simp only [M.bnd, M.ret, M.stk, sSeq, sRet, sRetN, sIf, sSet, sExpr, sNx, eVar, eC, eBin, eFn, endFn, argF, slotsOf, wr, wr1, outsF, aCons, aNil, eTup, datas, eCal, snaps, snap, handed, eIf, tOf, tNo, tBoth, tAny, eBoth, eAny, eNo, eNeg, eChain, eLst, lDisp, runD, startF, slotOf, Tg.put, Tg.puts, e1, sPar2, eSl, eBits, eVar, oSome, oNone, List.map_cons, List.map_nil, List.length_cons, List.length_nil, List.replicate, List.cons_append, List.nil_append, List.append_nil, List.getElem?_cons_zero, List.getElem?_cons_succ, List.set_cons_zero, List.set_cons_succ, Option.map_some, Option.bind_some, lim0, lim1, lim2, lim3, lim4, lim5, lim6, lim7, lim8, lim9, lim10, lim11, Nat.reduceAdd, Nat.reduceSub, Nat.reduceLT, Nat.reduceEqDiff, if_true, if_false, eq_self, decide_true, decide_false, Bool.false_eq_true, Bool.not_true, Bool.not_false, and_self, and_true, true_and, Nat.zero_lt_succ, Nat.lt_add_one, List.nodup_nil, List.nodup_cons, List.not_mem_nil, not_false_eq_true, s1, ms, mq, s2, n1, g0, a2, p1, z1', n2]
  refine seq_step (f1 := [some (.own false c7), o1, some (.d (.int ((t + 1 : Nat) : Int))), some (.d (mk st ns)), x4, some (.d (po p)), some (.d (po q)), some (.d (po (madeL st ns p))), some (.d (po (baseL st (t + 1))))]) ?_ ?_
  · have g0 : gIx (mk st ns) (.int 0) = some (.str (wd st)) := rfl
    have g1 := eq_S st
    cases st with
    | true =>
      have r1 : gMul (.tup [.tup [.int (-1), .int 1]]) (.int ((t + 1 : Nat) : Int)) = some (.tup (List.replicate (t + 1) (.tup [.int (-1), .int 1]))) := by
        show (if ((t + 1 : Nat) : Int) ≤ 1000 ∧ -1000 ≤ ((t + 1 : Nat) : Int) ∧ [DV.tup [.int (-1), .int 1]].length ≤ 1000 then some (DV.tup (List.replicate ((t + 1 : Nat) : Int).toNat [DV.tup [.int (-1), .int 1]]).flatten) else none) = _
        rw [if_pos ⟨by omega, by omega, by decide⟩, Int.toNat_natCast]
        congr 2
        have : ∀ k : Nat, (List.replicate k [DV.tup [.int (-1), .int 1]]).flatten = List.replicate k (.tup [.int (-1), .int 1]) := fun k => by
          induction k with
          | zero => rfl
          | succ k ih => rw [List.replicate_succ, List.flatten_cons, ih, List.replicate_succ]; rfl
        exact this _
      have r2 : m__law_rooted [.d (.tup (List.replicate (t + 1) (.tup [.int (-1), .int 1])))] = some (.ok (po (baseL true (t + 1))), []) := roots_comb (by omega) (by omega)
      generalize List.replicate (t + 1) (DV.tup [.int (-1), .int 1]) = Z at r1 r2
      simp only [M.bnd, M.ret, M.stk, sSeq, sRet, sRetN, sIf, sSet, sExpr, sNx, eVar, eC, eBin, eFn, endFn, argF, slotsOf, wr, wr1, outsF, aCons, aNil, eTup, datas, eCal, snaps, snap, handed, eIf, tOf, tNo, tBoth, tAny, eBoth, eAny, eNo, eNeg, eChain, eLst, lDisp, runD, startF, slotOf, Tg.put, Tg.puts, e1, sPar2, eSl, eBits, eVar, oSome, oNone, List.map_cons, List.map_nil, List.length_cons, List.length_nil, List.replicate, List.cons_append, List.nil_append, List.append_nil, List.getElem?_cons_zero, List.getElem?_cons_succ, List.set_cons_zero, List.set_cons_succ, Option.map_some, Option.bind_some, lim0, lim1, lim2, lim3, lim4, lim5, lim6, lim7, lim8, lim9, lim10, lim11, Nat.reduceAdd, Nat.reduceSub, Nat.reduceLT, Nat.reduceEqDiff, if_true, if_false, eq_self, decide_true, decide_false, Bool.false_eq_true, Bool.not_true, Bool.not_false, and_self, and_true, true_and, Nat.zero_lt_succ, Nat.lt_add_one, List.nodup_nil, List.nodup_cons, List.not_mem_nil, not_false_eq_true, g0, g1, r1, r2]
    | false =>
      have r1 := pow_mul (m := t + 1) (by omega)
      have r2 : gAdd (.tup ((List.replicate (t + 1) (0 : Rat)).map fr)) (.tup [.tup [.int 1, .int 1]]) = some (po (baseL false (t + 1))) := pow_cat (by omega)
      generalize (List.replicate (t + 1) (0 : Rat)).map fr = Z at r1 r2
      simp only [M.bnd, M.ret, M.stk, sSeq, sRet, sRetN, sIf, sSet, sExpr, sNx, eVar, eC, eBin, eFn, endFn, argF, slotsOf, wr, wr1, outsF, aCons, aNil, eTup, datas, eCal, snaps, snap, handed, eIf, tOf, tNo, tBoth, tAny, eBoth, eAny, eNo, eNeg, eChain, eLst, lDisp, runD, startF, slotOf, Tg.put, Tg.puts, e1, sPar2, eSl, eBits, eVar, oSome, oNone, List.map_cons, List.map_nil, List.length_cons, List.length_nil, List.replicate, List.cons_append, List.nil_append, List.append_nil, List.getElem?_cons_zero, List.getElem?_cons_succ, List.set_cons_zero, List.set_cons_succ, Option.map_some, Option.bind_some, lim0, lim1, lim2, lim3, lim4, lim5, lim6, lim7, lim8, lim9, lim10, lim11, Nat.reduceAdd, Nat.reduceSub, Nat.reduceLT, Nat.reduceEqDiff, if_true, if_false, eq_self, decide_true, decide_false, Bool.false_eq_true, Bool.not_true, Bool.not_false, and_self, and_true, true_and, Nat.zero_lt_succ, Nat.lt_add_one, List.nodup_nil, List.nodup_cons, List.not_mem_nil, not_false_eq_true, g0, g1, r1, r2]
  · have bf := base_fit (ns := ns) (m := t + 1) st (by omega) (by omega) hn hl
    have b1 := t_symbol (m := t + 1) (st := st) (by omega) (by omega) hn hl
    have b2 := t_lmade (st := st) bf
    have b3 := t_alike_po (made_sm (st := st) bf) (Nat.le_trans (made_len (st := st) (ns := ns) bf.plen) (by decide))
    by_cases z : t3 = 0
    · simp only [M.bnd, M.ret, M.stk, sSeq, sRet, sRetN, sIf, sSet, sExpr, sNx, eVar, eC, eBin, eFn, endFn, argF, slotsOf, wr, wr1, outsF, aCons, aNil, eTup, datas, eCal, snaps, snap, handed, eIf, tOf, tNo, tBoth, tAny, eBoth, eAny, eNo, eNeg, eChain, eLst, lDisp, runD, startF, slotOf, Tg.put, Tg.puts, e1, sPar2, eSl, eBits, eVar, oSome, oNone, List.map_cons, List.map_nil, List.length_cons, List.length_nil, List.replicate, List.cons_append, List.nil_append, List.append_nil, List.getElem?_cons_zero, List.getElem?_cons_succ, List.set_cons_zero, List.set_cons_succ, Option.map_some, Option.bind_some, lim0, lim1, lim2, lim3, lim4, lim5, lim6, lim7, lim8, lim9, lim10, lim11, Nat.reduceAdd, Nat.reduceSub, Nat.reduceLT, Nat.reduceEqDiff, if_true, if_false, eq_self, decide_true, decide_false, Bool.false_eq_true, Bool.not_true, Bool.not_false, and_self, and_true, true_and, Nat.zero_lt_succ, Nat.lt_add_one, List.nodup_nil, List.nodup_cons, List.not_mem_nil, not_false_eq_true, e8', K, decide_eq_true z, b1, b2, b3]
    · simp only [eFnK, pick, M.bnd, M.ret, M.stk, sSeq, sRet, sRetN, sIf, sSet, sExpr, sNx, eVar, eC, eBin, eFn, endFn, argF, slotsOf, wr, wr1, outsF, aCons, aNil, eTup, datas, eCal, snaps, snap, handed, eIf, tOf, tNo, tBoth, tAny, eBoth, eAny, eNo, eNeg, eChain, eLst, lDisp, runD, startF, slotOf, Tg.put, Tg.puts, e1, sPar2, eSl, eBits, eVar, oSome, oNone, List.map_cons, List.map_nil, List.length_cons, List.length_nil, List.replicate, List.cons_append, List.nil_append, List.append_nil, List.getElem?_cons_zero, List.getElem?_cons_succ, List.set_cons_zero, List.set_cons_succ, Option.map_some, Option.bind_some, lim0, lim1, lim2, lim3, lim4, lim5, lim6, lim7, lim8, lim9, lim10, lim11, Nat.reduceAdd, Nat.reduceSub, Nat.reduceLT, Nat.reduceEqDiff, if_true, if_false, eq_self, decide_true, decide_false, Bool.false_eq_true, Bool.not_true, Bool.not_false, and_self, and_true, true_and, Nat.zero_lt_succ, Nat.lt_add_one, List.nodup_nil, List.nodup_cons, List.not_mem_nil, not_false_eq_true, e8', K, decide_eq_false z, b1, b2, b3]
end L50
set_option maxRecDepth 100000
set_option maxHeartbeats 1000000
namespace L50
open PySem DL
theorem seq_eq {f g : SF} {fr f1 : Frm} (h1 : f fr = some (.ok .nx, f1)) : sSeq f g fr = g f1 := seq_step h1 rfl
theorem t_right {l : Bool} {ck : List DV} (h : Cask ck) : ∃ ck', m__law_right [.own l ck] = some (.ok (.bl true), [ck']) := by
  obtain ⟨f', e, c', x1, x2, x3, x4, x5, x6, x7, x8, ef, hc'⟩ := for_of (T := .nm 1) (body := b__law_right_2) (fun _ f => ∃ c x1 x2 x3 x4 x5 x6 x7 x8, f = [some (.own false c), x1, x2, x3, x4, x5, x6, x7, x8] ∧ Cask c) (rangeD 0 5) [some (.own false ck), none, none, none, none, none, none, none, none] (fun x r f hf => by
    obtain ⟨c, x1, x2, x3, x4, x5, x6, x7, x8, e, hc⟩ := hf
    subst e
    obtain ⟨c', y2, y3, y4, y5, y6, y7, y8, e, hc'⟩ := right_body (o1 := some (.d x)) (o2 := x2) (o3 := x3) (o4 := x4) (o5 := x5) (o6 := x6) (o7 := x7) (o8 := x8) hc
    exact ⟨_, _, rfl, e, c', _, _, _, _, _, _, _, _, rfl, hc'⟩) ⟨ck, none, none, none, none, none, none, none, none, rfl, h⟩
  subst ef
  refine ⟨c', ?_⟩
  have hit : iRg1 (aCons (eC (.int 5)) aNil) [some (.own false ck), none, none, none, none, none, none, none, none] = some (.ok (rangeD 0 5), [some (.own false ck), none, none, none, none, none, none, none, none]) := rfl
  have h1 : sFor (.nm 1) i__law_right_2 b__law_right_2 [some (.own false ck), none, none, none, none, none, none, none, none] = some (.ok .nx, [some (.own false c'), x1, x2, x3, x4, x5, x6, x7, x8]) := by
    simp only [sFor, i__law_right_2, M.bnd]
    rw [hit]
    exact e
  simp only [m__law_right, runD, startF, slotOf, List.map_cons, List.map_nil, List.length_cons, List.length_nil, List.replicate, List.cons_append, List.nil_append, List.append_nil, List.getElem?_cons_zero, List.getElem?_cons_succ, List.set_cons_zero, List.set_cons_succ, Option.map_some, Option.bind_some, lim0, lim1, lim2, lim3, lim4, lim5, lim6, lim7, lim8, lim9, lim10, lim11, Nat.reduceAdd, Nat.reduceSub, Nat.reduceLT, Nat.reduceEqDiff, if_true, if_false, eq_self, decide_true, decide_false, Bool.false_eq_true, Bool.not_true, Bool.not_false, and_self, and_true, true_and, Nat.zero_lt_succ, Nat.lt_add_one, List.nodup_nil, List.nodup_cons, List.not_mem_nil, not_false_eq_true]
  unfold g__law_right
  rw [seq_eq h1]
  rfl
/-! ### the cask of a script -/
theorem bits_lt {i : Int} (h : Builtin.Int.intBits i ≤ 1048576) : i.natAbs.log2 < 1048577 := by
  unfold Builtin.Int.intBits at h
  by_cases z : i = 0
  · subst z; decide
  · rw [if_neg (by simpa using z)] at h
    omega
theorem cask_loop {S L O T : DV} {st : Int} (hst : st.natAbs < 2 ^ 64) : ∀ (l : List Int) (k : Nat) (held : Int) (o5 o6 : Option SV), (∀ i ∈ l, Builtin.Int.intBits i ≤ 1048576) → k + l.length ≤ 100 → 0 ≤ held → held.natAbs < 2 ^ 64 →
    ∃ (held' : Int) (x y : Option SV), forLoop (.tp [.nm 5, .nm 6]) b__law_cask_1 (enumD k (l.map DV.int)) [some (.d S), some (.d L), some (.d O), some (.d (.int held)), some (.d (.int st)), o5, o6] = some (.ok .nx, [some (.d S), some (.d L), some (.d O), some (.d (.int held')), some (.d (.int st)), x, y]) ∧ 0 ≤ held' ∧ held'.natAbs < 2 ^ 64
  | [], k, held, o5, o6, _, _, h0, h1 => ⟨held, o5, o6, rfl, h0, h1⟩
  | i :: l, k, held, o5, o6, hl, hk, h0, h1 => by
    have hi := bits_lt (hl i (List.mem_cons_self ..))
    have lh := log_lt h1 (by decide)
    have m1 := mul_ok (i := held) (j := 3935559000370003845) (by
      have h2 : (3935559000370003845 : Int).natAbs.log2 < 100 := by decide
      omega)
    have m2 := mul_ok (i := 2) (j := (k : Int)) (by
      have h2 : (2 : Int).natAbs.log2 < 100 := by decide
      have h3 : (k : Int).natAbs.log2 < 100 := by rw [Int.natAbs_natCast]; exact log_lt (Nat.lt_of_le_of_lt (show k ≤ 100 by omega) (by decide)) (by decide)
      omega)
    have m3 := mul_ok (i := i) (j := 2 * (k : Int) + 3) (by
      have h3 : (2 * (k : Int) + 3).natAbs.log2 < 100 := log_lt (Nat.lt_of_le_of_lt (show (2 * (k : Int) + 3).natAbs ≤ 203 by simp at hk; omega) (by decide)) (by decide)
      omega)
    have md := mod_ok (i := held * 3935559000370003845 + i * (2 * (k : Int) + 3) + st) (j := 9223372036854775783) (by decide)
    let h' := (held * 3935559000370003845 + i * (2 * (k : Int) + 3) + st) % 9223372036854775783
    have g0 : 0 ≤ h' := Int.emod_nonneg _ (by decide)
    have g1 : h' < 9223372036854775783 := Int.emod_lt_of_pos _ (by decide)
    have fi : ∀ i : Int, fInt [.int i] = some (.int i) := fun _ => rfl
    obtain ⟨held', x, y, e, q1, q2⟩ := cask_loop (S := S) (L := L) (O := O) (T := T) hst l (k + 1) h' (some (.d (.int (k : Nat)))) (some (.d (.int i))) (fun j hj => hl j (List.mem_cons_of_mem _ hj)) (by simp at hk; omega) g0 (by omega)
    refine ⟨held', x, y, ?_, q1, q2⟩
    rw [List.map_cons, enumD]
    simp only [forLoop, b__law_cask_1, M.bnd, M.ret, M.stk, sSeq, sRet, sRetN, sIf, sSet, sExpr, sNx, eVar, eC, eBin, eFn, endFn, argF, slotsOf, wr, wr1, outsF, aCons, aNil, eTup, datas, eCal, snaps, snap, handed, eIf, tOf, tNo, tBoth, tAny, eBoth, eAny, eNo, eNeg, eChain, eLst, lDisp, runD, startF, slotOf, Tg.put, Tg.puts, e1, sPar2, eSl, eBits, eVar, oSome, oNone, List.map_cons, List.map_nil, List.length_cons, List.length_nil, List.replicate, List.cons_append, List.nil_append, List.append_nil, List.getElem?_cons_zero, List.getElem?_cons_succ, List.set_cons_zero, List.set_cons_succ, Option.map_some, Option.bind_some, lim0, lim1, lim2, lim3, lim4, lim5, lim6, lim7, lim8, lim9, lim10, lim11, Nat.reduceAdd, Nat.reduceSub, Nat.reduceLT, Nat.reduceEqDiff, if_true, if_false, eq_self, decide_true, decide_false, Bool.false_eq_true, Bool.not_true, Bool.not_false, and_self, and_true, true_and, Nat.zero_lt_succ, Nat.lt_add_one, List.nodup_nil, List.nodup_cons, List.not_mem_nil, not_false_eq_true, m1, m2, fi, add_ok, m3, md]
    exact e
theorem last3 {fe : EF} {fr : Frm} {a b c : Int} (h : fe fr = some (.ok (.d (.int a)), fr)) (h3 : eVar 3 fr = some (.ok (.d (.int b)), fr)) (h4 : eVar 4 fr = some (.ok (.d (.int c)), fr)) : sRet (eLst (lDisp (aCons fe (aCons (eVar 3) (aCons (eVar 4) aNil))))) fr = some (.ok (.rt (.lst [.int a, .int b, .int c])), fr) := by
  simp only [sRet, eLst, lDisp, aCons, aNil, M.bnd, M.ret, h, h3, h4, datas, handed, List.length_cons, List.length_nil, Nat.reduceAdd, lim3, if_true, Option.map_some]
theorem t_cask {ns : List Int} {lap : Nat} (hl : ns.length ≤ 63) (hb : ∀ i ∈ ns, Builtin.Int.intBits i ≤ 1048576) (h4 : lap < 4) : ∃ ck, m__law_cask [.d (.scr (ns.map DV.int)), .d (.int (lap : Nat))] = some (.ok (.lst ck), []) ∧ Cask ck ∧ ck.all atomD = true := by
  let S : DV := .scr (ns.map DV.int)
  have own : ∃ ow : Int, (eIf (tOf (eBin gLt (eVar 1) (eCal fLen (aCons (eVar 0) aNil)))) (eCal fInt (aCons (eBin gIx (eVar 0) (eVar 1)) aNil)) (eC (.int 0))) [some (.d S), some (.d (.int (lap : Nat))), none, none, none, none, none] = some (.ok (.d (.int ow)), [some (.d S), some (.d (.int (lap : Nat))), none, none, none, none, none]) := by
    have e1 : fLen [S] = some (.int (ns.length : Nat)) := by
      show some (DV.int (((ns.map DV.int).length : Nat) : Int)) = _
      rw [List.length_map]
    by_cases z : ((lap : Nat) : Int) < ((ns.length : Nat) : Int)
    · have hlt : lap < ns.length := by omega
      have e2 : gIx S (.int (lap : Nat)) = some (.int ns[lap]) := by
        show L2.atI (ns.map DV.int) (lap : Int) = _
        unfold L2.atI L2.ixN
        rw [if_pos (by omega), if_pos (by rw [List.length_map]; omega)]
        simp [hlt]
      have fi : ∀ i : Int, fInt [.int i] = some (.int i) := fun _ => rfl
      refine ⟨ns[lap], ?_⟩
      simp only [M.bnd, M.ret, M.stk, sSeq, sRet, sRetN, sIf, sSet, sExpr, sNx, eVar, eC, eBin, eFn, endFn, argF, slotsOf, wr, wr1, outsF, aCons, aNil, eTup, datas, eCal, snaps, snap, handed, eIf, tOf, tNo, tBoth, tAny, eBoth, eAny, eNo, eNeg, eChain, eLst, lDisp, runD, startF, slotOf, Tg.put, Tg.puts, e1, sPar2, eSl, eBits, eVar, oSome, oNone, List.map_cons, List.map_nil, List.length_cons, List.length_nil, List.replicate, List.cons_append, List.nil_append, List.append_nil, List.getElem?_cons_zero, List.getElem?_cons_succ, List.set_cons_zero, List.set_cons_succ, Option.map_some, Option.bind_some, lim0, lim1, lim2, lim3, lim4, lim5, lim6, lim7, lim8, lim9, lim10, lim11, Nat.reduceAdd, Nat.reduceSub, Nat.reduceLT, Nat.reduceEqDiff, if_true, if_false, eq_self, decide_true, decide_false, Bool.false_eq_true, Bool.not_true, Bool.not_false, and_self, and_true, true_and, Nat.zero_lt_succ, Nat.lt_add_one, List.nodup_nil, List.nodup_cons, List.not_mem_nil, not_false_eq_true, e1, lt_ok, decide_eq_true z, e2, fi]
    · refine ⟨0, ?_⟩
      simp only [M.bnd, M.ret, M.stk, sSeq, sRet, sRetN, sIf, sSet, sExpr, sNx, eVar, eC, eBin, eFn, endFn, argF, slotsOf, wr, wr1, outsF, aCons, aNil, eTup, datas, eCal, snaps, snap, handed, eIf, tOf, tNo, tBoth, tAny, eBoth, eAny, eNo, eNeg, eChain, eLst, lDisp, runD, startF, slotOf, Tg.put, Tg.puts, e1, sPar2, eSl, eBits, eVar, oSome, oNone, List.map_cons, List.map_nil, List.length_cons, List.length_nil, List.replicate, List.cons_append, List.nil_append, List.append_nil, List.getElem?_cons_zero, List.getElem?_cons_succ, List.set_cons_zero, List.set_cons_succ, Option.map_some, Option.bind_some, lim0, lim1, lim2, lim3, lim4, lim5, lim6, lim7, lim8, lim9, lim10, lim11, Nat.reduceAdd, Nat.reduceSub, Nat.reduceLT, Nat.reduceEqDiff, if_true, if_false, eq_self, decide_true, decide_false, Bool.false_eq_true, Bool.not_true, Bool.not_false, and_self, and_true, true_and, Nat.zero_lt_succ, Nat.lt_add_one, List.nodup_nil, List.nodup_cons, List.not_mem_nil, not_false_eq_true, e1, lt_ok, decide_eq_false z]
  obtain ⟨ow, hown⟩ := own
  have m1 := mul_ok (i := 7919) (j := (lap : Int)) (by
    have h2 : (7919 : Int).natAbs.log2 < 100 := by decide
    have h3 : (lap : Int).natAbs.log2 < 100 := by rw [Int.natAbs_natCast]; exact log_lt (Nat.lt_trans h4 (by decide)) (by decide)
    omega)
  have m2 := mul_ok (i := 2) (j := (lap : Int)) (by
    have h2 : (2 : Int).natAbs.log2 < 100 := by decide
    have h3 : (lap : Int).natAbs.log2 < 100 := by rw [Int.natAbs_natCast]; exact log_lt (Nat.lt_trans h4 (by decide)) (by decide)
    omega)
  have e54 : gSl S none (some 54) = some (.lst ((ns.take 54).map DV.int)) := by
    show some (DV.lst (cutD (ns.map DV.int) none (some 54))) = _
    unfold cutD
    have h2 : HT.sIx (ns.map DV.int).length (ns.map DV.int).length (some 54) = min 54 (ns.map DV.int).length := HT.sIx_nat _ _ 54
    rw [HT.sIx_none, h2]
    congr 2
    rw [List.drop_zero, Nat.sub_zero, List.map_take]
    by_cases z : 54 ≤ (ns.map DV.int).length
    · rw [Nat.min_eq_left z]
    · rw [Nat.min_eq_right (by omega), List.take_of_length_le (Nat.le_refl _), List.take_of_length_le (by omega)]
  obtain ⟨held', x, y, e, q1, q2⟩ := cask_loop (S := S) (L := .int (lap : Nat)) (O := .int ow) (T := S) (st := 1442695040888963407 + 2 * (lap : Int)) (by omega) (ns.take 54) 0 (5 + 7919 * (lap : Int)) none none (fun i hi => hb i (List.mem_of_mem_take hi)) (by simp; omega) (by omega) (by omega)
  have hit : i__law_cask_1 [some (.d S), some (.d (.int (lap : Nat))), some (.d (.int ow)), some (.d (.int (5 + 7919 * (lap : Int)))), some (.d (.int (1442695040888963407 + 2 * (lap : Int)))), none, none] = some (.ok (enumD 0 ((ns.take 54).map DV.int)), [some (.d S), some (.d (.int (lap : Nat))), some (.d (.int ow)), some (.d (.int (5 + 7919 * (lap : Int)))), some (.d (.int (1442695040888963407 + 2 * (lap : Int)))), none, none]) := by
    simp only [i__law_cask_1, iEn, seqOf, M.of, M.bnd, M.ret, M.stk, sSeq, sRet, sRetN, sIf, sSet, sExpr, sNx, eVar, eC, eBin, eFn, endFn, argF, slotsOf, wr, wr1, outsF, aCons, aNil, eTup, datas, eCal, snaps, snap, handed, eIf, tOf, tNo, tBoth, tAny, eBoth, eAny, eNo, eNeg, eChain, eLst, lDisp, runD, startF, slotOf, Tg.put, Tg.puts, e1, sPar2, eSl, eBits, eVar, oSome, oNone, List.map_cons, List.map_nil, List.length_cons, List.length_nil, List.replicate, List.cons_append, List.nil_append, List.append_nil, List.getElem?_cons_zero, List.getElem?_cons_succ, List.set_cons_zero, List.set_cons_succ, Option.map_some, Option.bind_some, lim0, lim1, lim2, lim3, lim4, lim5, lim6, lim7, lim8, lim9, lim10, lim11, Nat.reduceAdd, Nat.reduceSub, Nat.reduceLT, Nat.reduceEqDiff, if_true, if_false, eq_self, decide_true, decide_false, Bool.false_eq_true, Bool.not_true, Bool.not_false, and_self, and_true, true_and, Nat.zero_lt_succ, Nat.lt_add_one, List.nodup_nil, List.nodup_cons, List.not_mem_nil, not_false_eq_true, e54]
  have p1 : gPow (.int 10) (.int 11) = some (.int (10 ^ 11)) := rfl
  have p2 : gPow (.int 10) (.int 50) = some (.int (10 ^ 50)) := rfl
  have md := mod_ok (i := (ow.natAbs : Int)) (j := (10 ^ 50 : Int)) (by decide)
  have key : ∃ a : Int, 0 ≤ a ∧ (eIf (tAny (tOf (eBin gLt (eVar 2) (eC (.int 0)))) (tOf (eBin gGt (eVar 2) (eBin gPow (eC (.int 10)) (eC (.int 11)))))) (eBin gMod (eCal fAbs (aCons (eVar 2) aNil)) (eBin gPow (eC (.int 10)) (eC (.int 50)))) (eC (.int 0))) [some (.d S), some (.d (.int (lap : Nat))), some (.d (.int ow)), some (.d (.int held')), some (.d (.int (1442695040888963407 + 2 * (lap : Int)))), x, y] = some (.ok (.d (.int a)), [some (.d S), some (.d (.int (lap : Nat))), some (.d (.int ow)), some (.d (.int held')), some (.d (.int (1442695040888963407 + 2 * (lap : Int)))), x, y]) := by
    by_cases z : ow < 0
    · refine ⟨_, Int.emod_nonneg (ow.natAbs : Int) (show (10 ^ 50 : Int) ≠ 0 by decide), ?_⟩
      simp only [M.bnd, M.ret, M.stk, sSeq, sRet, sRetN, sIf, sSet, sExpr, sNx, eVar, eC, eBin, eFn, endFn, argF, slotsOf, wr, wr1, outsF, aCons, aNil, eTup, datas, eCal, snaps, snap, handed, eIf, tOf, tNo, tBoth, tAny, eBoth, eAny, eNo, eNeg, eChain, eLst, lDisp, runD, startF, slotOf, Tg.put, Tg.puts, e1, sPar2, eSl, eBits, eVar, oSome, oNone, List.map_cons, List.map_nil, List.length_cons, List.length_nil, List.replicate, List.cons_append, List.nil_append, List.append_nil, List.getElem?_cons_zero, List.getElem?_cons_succ, List.set_cons_zero, List.set_cons_succ, Option.map_some, Option.bind_some, lim0, lim1, lim2, lim3, lim4, lim5, lim6, lim7, lim8, lim9, lim10, lim11, Nat.reduceAdd, Nat.reduceSub, Nat.reduceLT, Nat.reduceEqDiff, if_true, if_false, eq_self, decide_true, decide_false, Bool.false_eq_true, Bool.not_true, Bool.not_false, and_self, and_true, true_and, Nat.zero_lt_succ, Nat.lt_add_one, List.nodup_nil, List.nodup_cons, List.not_mem_nil, not_false_eq_true, lt_ok, decide_eq_true z, abs_ok, p2, md]
    · by_cases w : ow > 10 ^ 11
      · refine ⟨_, Int.emod_nonneg (ow.natAbs : Int) (show (10 ^ 50 : Int) ≠ 0 by decide), ?_⟩
        simp only [M.bnd, M.ret, M.stk, sSeq, sRet, sRetN, sIf, sSet, sExpr, sNx, eVar, eC, eBin, eFn, endFn, argF, slotsOf, wr, wr1, outsF, aCons, aNil, eTup, datas, eCal, snaps, snap, handed, eIf, tOf, tNo, tBoth, tAny, eBoth, eAny, eNo, eNeg, eChain, eLst, lDisp, runD, startF, slotOf, Tg.put, Tg.puts, e1, sPar2, eSl, eBits, eVar, oSome, oNone, List.map_cons, List.map_nil, List.length_cons, List.length_nil, List.replicate, List.cons_append, List.nil_append, List.append_nil, List.getElem?_cons_zero, List.getElem?_cons_succ, List.set_cons_zero, List.set_cons_succ, Option.map_some, Option.bind_some, lim0, lim1, lim2, lim3, lim4, lim5, lim6, lim7, lim8, lim9, lim10, lim11, Nat.reduceAdd, Nat.reduceSub, Nat.reduceLT, Nat.reduceEqDiff, if_true, if_false, eq_self, decide_true, decide_false, Bool.false_eq_true, Bool.not_true, Bool.not_false, and_self, and_true, true_and, Nat.zero_lt_succ, Nat.lt_add_one, List.nodup_nil, List.nodup_cons, List.not_mem_nil, not_false_eq_true, lt_ok, decide_eq_false z, gt_ok, p1, decide_eq_true w, abs_ok, p2, md]
      · refine ⟨0, Int.le_refl _, ?_⟩
        simp only [M.bnd, M.ret, M.stk, sSeq, sRet, sRetN, sIf, sSet, sExpr, sNx, eVar, eC, eBin, eFn, endFn, argF, slotsOf, wr, wr1, outsF, aCons, aNil, eTup, datas, eCal, snaps, snap, handed, eIf, tOf, tNo, tBoth, tAny, eBoth, eAny, eNo, eNeg, eChain, eLst, lDisp, runD, startF, slotOf, Tg.put, Tg.puts, e1, sPar2, eSl, eBits, eVar, oSome, oNone, List.map_cons, List.map_nil, List.length_cons, List.length_nil, List.replicate, List.cons_append, List.nil_append, List.append_nil, List.getElem?_cons_zero, List.getElem?_cons_succ, List.set_cons_zero, List.set_cons_succ, Option.map_some, Option.bind_some, lim0, lim1, lim2, lim3, lim4, lim5, lim6, lim7, lim8, lim9, lim10, lim11, Nat.reduceAdd, Nat.reduceSub, Nat.reduceLT, Nat.reduceEqDiff, if_true, if_false, eq_self, decide_true, decide_false, Bool.false_eq_true, Bool.not_true, Bool.not_false, and_self, and_true, true_and, Nat.zero_lt_succ, Nat.lt_add_one, List.nodup_nil, List.nodup_cons, List.not_mem_nil, not_false_eq_true, lt_ok, decide_eq_false z, gt_ok, p1, decide_eq_false w]
  obtain ⟨a, ha, hkey⟩ := key
  refine ⟨[.int a, .int held', .int (1442695040888963407 + 2 * (lap : Int))], ?_, ⟨a, held', _, rfl, ha, q1, q2⟩, rfl⟩
  simp only [m__law_cask, runD, startF, slotOf, List.map_cons, List.map_nil, List.length_cons, List.length_nil, List.replicate, List.cons_append, List.nil_append, List.append_nil, List.getElem?_cons_zero, List.getElem?_cons_succ, List.set_cons_zero, List.set_cons_succ, Option.map_some, Option.bind_some, lim0, lim1, lim2, lim3, lim4, lim5, lim6, lim7, lim8, lim9, lim10, lim11, Nat.reduceAdd, Nat.reduceSub, Nat.reduceLT, Nat.reduceEqDiff, if_true, if_false, eq_self, decide_true, decide_false, Bool.false_eq_true, Bool.not_true, Bool.not_false, and_self, and_true, true_and, Nat.zero_lt_succ, Nat.lt_add_one, List.nodup_nil, List.nodup_cons, List.not_mem_nil, not_false_eq_true]
  unfold g__law_cask
  rw [seq_eq (f1 := [some (.d S), some (.d (.int (lap : Nat))), some (.d (.int ow)), none, none, none, none]) (by
    unfold sSet M.bnd
    rw [hown]
    rfl)]
  rw [seq_eq (f1 := [some (.d S), some (.d (.int (lap : Nat))), some (.d (.int ow)), some (.d (.int (5 + 7919 * (lap : Int)))), some (.d (.int (1442695040888963407 + 2 * (lap : Int)))), none, none]) (by
    simp only [M.bnd, M.ret, M.stk, sSeq, sRet, sRetN, sIf, sSet, sExpr, sNx, eVar, eC, eBin, eFn, endFn, argF, slotsOf, wr, wr1, outsF, aCons, aNil, eTup, datas, eCal, snaps, snap, handed, eIf, tOf, tNo, tBoth, tAny, eBoth, eAny, eNo, eNeg, eChain, eLst, lDisp, runD, startF, slotOf, Tg.put, Tg.puts, e1, sPar2, eSl, eBits, eVar, oSome, oNone, List.map_cons, List.map_nil, List.length_cons, List.length_nil, List.replicate, List.cons_append, List.nil_append, List.append_nil, List.getElem?_cons_zero, List.getElem?_cons_succ, List.set_cons_zero, List.set_cons_succ, Option.map_some, Option.bind_some, lim0, lim1, lim2, lim3, lim4, lim5, lim6, lim7, lim8, lim9, lim10, lim11, Nat.reduceAdd, Nat.reduceSub, Nat.reduceLT, Nat.reduceEqDiff, if_true, if_false, eq_self, decide_true, decide_false, Bool.false_eq_true, Bool.not_true, Bool.not_false, and_self, and_true, true_and, Nat.zero_lt_succ, Nat.lt_add_one, List.nodup_nil, List.nodup_cons, List.not_mem_nil, not_false_eq_true, m1, m2, add_ok])]
  rw [seq_eq (f1 := [some (.d S), some (.d (.int (lap : Nat))), some (.d (.int ow)), some (.d (.int held')), some (.d (.int (1442695040888963407 + 2 * (lap : Int)))), x, y]) (by
    unfold sFor M.bnd
    rw [hit]
    exact e)]
  rw [last3 hkey rfl rfl]
  rfl
/-! ### the law -/
theorem law_rest (S : DV) (o1 : Option SV) (h1 : sFor (.nm 1) i_law_1 b_law_1 [some (.d S), none, none, none, none, none, none, none, none] = some (.ok .nx, [some (.d S), o1, none, none, none, none, none, none, none])) : m_law [.d S] = some (.ok (.bl true), []) := by
  simp only [m_law, runD, startF, slotOf, List.map_cons, List.map_nil, List.length_cons, List.length_nil, List.replicate, List.cons_append, List.nil_append, List.append_nil, List.getElem?_cons_zero, List.getElem?_cons_succ, List.set_cons_zero, List.set_cons_succ, Option.map_some, Option.bind_some, lim0, lim1, lim2, lim3, lim4, lim5, lim6, lim7, lim8, lim9, lim10, lim11, Nat.reduceAdd, Nat.reduceSub, Nat.reduceLT, Nat.reduceEqDiff, if_true, if_false, eq_self, decide_true, decide_false, Bool.false_eq_true, Bool.not_true, Bool.not_false, and_self, and_true, true_and, Nat.zero_lt_succ, Nat.lt_add_one, List.nodup_nil, List.nodup_cons, List.not_mem_nil, not_false_eq_true]
  unfold g_law
  rw [seq_eq h1]
  kernel_rfl
theorem law_plain (ns : List Int) (h : ns.length ≤ 63) (hb : ∀ i ∈ ns, Builtin.Int.intBits i ≤ 1048576) : m_law [.d (.scr (ns.map DV.int))] = some (.ok (.bl true), []) := by
  let S : DV := .scr (ns.map DV.int)
  let n : Nat := min 4 (max 2 ns.length)
  have items : ∀ x ∈ rangeD 0 n, ∃ j : Nat, x = .int (j : Nat) ∧ j < 4 := fun x hx => by
    unfold rangeD at hx
    obtain ⟨j, hj, e⟩ := List.mem_map.mp hx
    have hj' : j < n := by simpa using hj
    refine ⟨j, ?_, by simp only [n] at hj'; omega⟩
    rw [← e]
    congr 1
    omega
  have turn : ∀ (j : Nat) (o1 : Option SV), j < 4 → b_law_1 [some (.d S), some (.d (.int (j : Nat))), none, none, none, none, none, none, none] = some (.ok .nx, [some (.d S), some (.d (.int (j : Nat))), none, none, none, none, none, none, none]) := fun j o1 hj => by
    obtain ⟨ck, e1, hc, hat⟩ := t_cask h hb hj
    have e1' : m__law_cask [.d S, .d (.int (j : Nat))] = some (.ok (.lst ck), []) := e1
    obtain ⟨ck', e2⟩ := t_right (l := true) hc
    have hfl : [S, .int (j : Nat)].all flatD = true := by
      have : (ns.map DV.int).all atomD = true := by simp [List.all_map, atomD]
      show (((ns.map DV.int).all atomD) && (true && true)) = true
      rw [this]; rfl
    simp only [b_law_1, eFnL, lFn, M.bnd, M.ret, M.stk, sSeq, sRet, sRetN, sIf, sSet, sExpr, sNx, eVar, eC, eBin, eFn, endFn, argF, slotsOf, wr, wr1, outsF, aCons, aNil, eTup, datas, eCal, snaps, snap, handed, eIf, tOf, tNo, tBoth, tAny, eBoth, eAny, eNo, eNeg, eChain, eLst, lDisp, runD, startF, slotOf, Tg.put, Tg.puts, e1, sPar2, eSl, eBits, eVar, oSome, oNone, List.map_cons, List.map_nil, List.length_cons, List.length_nil, List.replicate, List.cons_append, List.nil_append, List.append_nil, List.getElem?_cons_zero, List.getElem?_cons_succ, List.set_cons_zero, List.set_cons_succ, Option.map_some, Option.bind_some, lim0, lim1, lim2, lim3, lim4, lim5, lim6, lim7, lim8, lim9, lim10, lim11, Nat.reduceAdd, Nat.reduceSub, Nat.reduceLT, Nat.reduceEqDiff, if_true, if_false, eq_self, decide_true, decide_false, Bool.false_eq_true, Bool.not_true, Bool.not_false, and_self, and_true, true_and, Nat.zero_lt_succ, Nat.lt_add_one, List.nodup_nil, List.nodup_cons, List.not_mem_nil, not_false_eq_true, if_pos hfl, e1', if_pos hat, e2]
  obtain ⟨f', e, _, o1, ef⟩ := for_of (T := .nm 1) (body := b_law_1) (fun r f => (∀ x ∈ r, ∃ j : Nat, x = .int (j : Nat) ∧ j < 4) ∧ ∃ o1, f = [some (.d S), o1, none, none, none, none, none, none, none]) (rangeD 0 n) [some (.d S), none, none, none, none, none, none, none, none] (fun x r f hf => by
    obtain ⟨hx, o1, e⟩ := hf
    subst e
    obtain ⟨j, e, hj⟩ := hx x (List.mem_cons_self ..)
    subst e
    exact ⟨_, _, rfl, turn j o1 hj, fun y hy => hx y (List.mem_cons_of_mem _ hy), _, rfl⟩) ⟨items, none, rfl⟩
  subst ef
  refine law_rest S o1 ?_
  have e0 : fLen [S] = some (.int (ns.length : Nat)) := by
    show some (DV.int (((ns.map DV.int).length : Nat) : Int)) = _
    rw [List.length_map]
  have e1 : fMax [.int 2, .int (ns.length : Nat)] = some (.int ((max 2 ns.length : Nat) : Int)) := max_ok (a := 2)
  have e2 : fMin [.int 4, .int ((max 2 ns.length : Nat) : Int)] = some (.int (n : Nat)) := by
    show some (DV.int (if ((max 2 ns.length : Nat) : Int) < 4 then ((max 2 ns.length : Nat) : Int) else 4)) = _
    congr 2
    simp only [n]
    split <;> omega
  have hn4 : n ≤ 4 := by simp only [n]; omega
  have hl : -(LIM : Int) ≤ ((n : Nat) : Int) ∧ ((n : Nat) : Int) ≤ LIM := by rw [lim_int]; omega
  have hit : i_law_1 [some (.d S), none, none, none, none, none, none, none, none] = some (.ok (rangeD 0 n), [some (.d S), none, none, none, none, none, none, none, none]) := by
    simp only [i_law_1, iRg1, M.bnd, M.ret, M.stk, sSeq, sRet, sRetN, sIf, sSet, sExpr, sNx, eVar, eC, eBin, eFn, endFn, argF, slotsOf, wr, wr1, outsF, aCons, aNil, eTup, datas, eCal, snaps, snap, handed, eIf, tOf, tNo, tBoth, tAny, eBoth, eAny, eNo, eNeg, eChain, eLst, lDisp, runD, startF, slotOf, Tg.put, Tg.puts, e1, sPar2, eSl, eBits, eVar, oSome, oNone, List.map_cons, List.map_nil, List.length_cons, List.length_nil, List.replicate, List.cons_append, List.nil_append, List.append_nil, List.getElem?_cons_zero, List.getElem?_cons_succ, List.set_cons_zero, List.set_cons_succ, Option.map_some, Option.bind_some, lim0, lim1, lim2, lim3, lim4, lim5, lim6, lim7, lim8, lim9, lim10, lim11, Nat.reduceAdd, Nat.reduceSub, Nat.reduceLT, Nat.reduceEqDiff, if_true, if_false, eq_self, decide_true, decide_false, Bool.false_eq_true, Bool.not_true, Bool.not_false, and_self, and_true, true_and, Nat.zero_lt_succ, Nat.lt_add_one, List.nodup_nil, List.nodup_cons, List.not_mem_nil, not_false_eq_true, e0, e1, e2, if_pos hl, Int.toNat_natCast]
  unfold sFor M.bnd
  rw [hit]
  exact e
end L50
set_option maxRecDepth 100000
set_option maxHeartbeats 0
open PySem PySem.W PySem.Calls PyProof.Rows
theorem PySem.Challenge.cw_straightroots_k50_whole_makings_of_anyth_holds : PySem.Challenge.rw_straightroots_k50_whole_makings_of_anyth.Holds := by
  w_on; o_law
  refine HandSHeadRun.head_imp (r := L50.R) (q := view L50.R.prog [0, 71]) (H := L50.hk) (ob := L50.ob) (loose := L50.lo) (d := HandSHeadRun.topDef L50.R.prog 71) (kwd := []) L50.ob_eq
    L50.run (by kernel_rfl) (by kernel_rfl) (by kernel_rfl) (by rfl) (by first | assumption | decide +kernel) (by decide +kernel) ⟨rfl, rfl, rfl, rfl, rfl, by decide +kernel⟩ ?hw ?hc
  case hw => w_witness2
  case hc =>
    refine DL.walkG (l := PySem.Challenge.rw_straightroots_k50_whole_makings_of_anyth) (n := 63) (k := 9) (x := "script") rfl (by decide) (by kernel_rfl) ⟨rfl, by decide, by decide⟩ fun w mg fa h Y G hmg0 => ?_
    obtain ⟨K, KX, c, x⟩ := Y
    have hmg : mg ("law" : PySem.Str) = some (.ref fa) := by
      have e : (HandSHeadRun.topDef L50.R.prog 71).name = ("law" : PySem.Str) := by kernel_rfl
      rw [← e]
      exact hmg0
    obtain ⟨fd, hb, hF⟩ := L50.all_of (P := (PySem.Challenge.rw_straightroots_k50_whole_makings_of_anyth).prog) (w := w) KX G hmg c x
    exact ⟨K, fd, L50.m_law, KX, hb, L50.law_plain, fun base _ _ => hF base⟩
