import PyProof.Rows.All
import Wide.All
import OpenK.AllK
import Wide.FinOn
import HandS.ForMost
import HandS.ForExc
import HandS.TupAny
import HandS.TupMul
import HandS.Wide
import HandS.IsInst
import HandS.Deep
import HandS.Zip
import HandS.Lambda
import HandS.Conv
import HandS.CallSlots
import HandS.Defaults
import HandS.Style
import KE.GoesMore
import PyProof.EnumMake
import HandS.ExcOwn
import HandS.HeadHook2
import HandS.HeadEnd
import HandS.Head0
import HandS.Head1
import HandS.Head2
import HandS.Flow
import HandS.TryMany
import HandS.CallLocal
import HandS.HeadHook4
import HandS.TupLe
import HandS.HeadWalk
import HandS.ListItems
import KE.SortData
import KE.GoesZip
import KE.KDictZip
import HandS.ExcValue
import PySem.Challenge.RW_cuesuntold_k02_scripts_with_told_moments
import KE.KStateDown
import Lean
import HandS.HeadHook1
import HandS.HeadHook3
set_option Elab.async false
set_option linter.all false
set_option maxRecDepth 100000
set_option maxHeartbeats 0
section
/-! A small language of values over the layer: D the values (tuples and lists by content, changeable lists by number), semantic functions over them, and the rules that carry these to the layer's readings. -/
namespace G
open PySem PySem.Spec PyProof.Rows L2

inductive D where
  | non | bl (b : Bool) | int (i : Int) | str (x : Str)
  | tup (l : List D) | lst (l : List D)
  | cel (n : Nat) | obj (n : Nat) | fn (x : Str) | ty (n : String) | scr (l : List Int)

/-- an object: an instance by its class and fields, a table -/
inductive Ob where
  | ins (cls : Str) (fs : List (Str × D))
  | dic (kvs : List (Key × D))
structure Sto where
  cel : List (List D) := []
  obj : List Ob := []
/-- an exception: its class, its field -/
structure Xn where
  cls : Str
  val : Option (Str × Int) := none
inductive Res (α : Type) where
  | ok (a : α) (s : Sto)
  | err (x : Xn) (s : Sto)
  | bad
def Res.bind {α β : Type} (r : Res α) (f : α → Sto → Res β) : Res β := match r with
  | .ok a s => f a s
  | .err x s => .err x s
  | .bad => .bad
@[simp] theorem Res.bind_ok {α β : Type} (a : α) (s : Sto) (f : α → Sto → Res β) : (Res.ok a s).bind f = f a s := rfl
@[simp] theorem Res.bind_err {α β : Type} (x : Xn) (s : Sto) (f : α → Sto → Res β) : (Res.err x s : Res α).bind f = .err x s := rfl
@[simp] theorem Res.bind_bad {α β : Type} (f : α → Sto → Res β) : (Res.bad : Res α).bind f = .bad := rfl
def Res.of {α : Type} (s : Sto) : Option α → Res α
  | some a => .ok a s
  | none => .bad
@[simp] theorem Res.of_some {α : Type} (s : Sto) (a : α) : Res.of s (some a) = .ok a s := rfl
@[simp] theorem Res.of_none {α : Type} (s : Sto) : Res.of s (none : Option α) = .bad := rfl

abbrev Env := List (Option D)
abbrev E := Env → Sto → Res D
abbrev EB := Env → Sto → Res Bool
abbrev EL := Env → Sto → Res (List D)

/-! ### the tables of code objects, told of the written part -/
class Tb where
  T : PySem.W.Frag → List (Addr × Str)
variable [Tb]
/-- no object that is told of here -/
def Fr (H : Hp) (a : Addr) : Prop := ∀ o, H a = some o → ∃ ps, o = .tbl ps
theorem Fr.of {H : Hp} {a : Addr} (h : H a = none) : Fr H a := fun o e => by rw [h] at e; cases e
theorem Fr.lst {H : Hp} {a : Addr} {xs : List V} (h : Fr H a) (e : H a = some (.lst xs)) : False := by
  obtain ⟨ps, q⟩ := h _ e
  cases q
theorem Fr.tup {H : Hp} {a : Addr} {xs : List V} (h : Fr H a) (e : H a = some (.tup xs)) : False := by
  obtain ⟨ps, q⟩ := h _ e
  cases q
theorem Fr.ins {H : Hp} {a C d : Addr} {fs : List (Str × V)} (h : Fr H a) (e : H a = some (.ins C d fs)) : False := by
  obtain ⟨ps, q⟩ := h _ e
  cases q
theorem Fr.up {H : Hp} {a b : Addr} {o : HO} (hb : b ≠ a) : Fr (upd H a o) b ↔ Fr H b := by
  unfold Fr
  rw [upd_ne hb]
theorem Fr.lstSame {H : Hp} {a : Addr} {ys : List V} : ¬ Fr (upd H a (.lst ys)) a := fun z => z.lst upd_same
theorem tabs_up {T : List (Addr × Str)} {H : Hp} {a : Addr} {xs ys : List V} (t : LamX.Tabs T H) (h : H a = some (.lst xs)) : LamX.Tabs T (upd H a (.lst ys)) := fun p hp => by
  obtain ⟨ps, h1, h2, h3⟩ := t p hp
  have ne : ∀ b u, H b = some u → (∀ zs, u ≠ .lst zs) → b ≠ a := fun b u e n z => by
    rw [z, h] at e
    exact n xs (Option.some.inj e).symm
  refine ⟨ps, by rw [upd_ne (ne _ _ h1 (fun zs z => by cases z))]; exact h1, h2, fun pos cv hc => ?_⟩
  obtain ⟨c, e1, e2⟩ := h3 pos cv hc
  exact ⟨c, e1, by rw [upd_ne (ne _ _ e2 (fun zs z => by unfold LamX.CodeO at z; cases z))]; exact e2⟩
/-! ### how they lie in the layer's heap -/
structure WM where
  phi : List Addr := []
  av : List Addr := []
  psi : List (Addr × Addr) := []

mutual
/-- no changeable list within -/
def D.pureO : D → Bool
  | .cel _ => false
  | .tup l => pureOL l
  | .lst l => pureOL l
  | _ => true
def pureOL : List D → Bool
  | [] => true
  | d :: l => d.pureO && pureOL l
end
mutual
/-- no changeable list, no object within -/
def D.pure : D → Bool
  | .cel _ => false
  | .obj _ => false
  | .tup l => pureL l
  | .lst l => pureL l
  | _ => true
def pureL : List D → Bool
  | [] => true
  | d :: l => d.pure && pureL l
end
mutual
theorem D.pure_O : ∀ d : D, d.pure = true → d.pureO = true
  | .non, _ => by unfold D.pureO; rfl
  | .bl _, _ => by unfold D.pureO; rfl
  | .int _, _ => by unfold D.pureO; rfl
  | .str _, _ => by unfold D.pureO; rfl
  | .tup l, h => by unfold D.pure at h; unfold D.pureO; exact pureL_O l h
  | .lst l, h => by unfold D.pure at h; unfold D.pureO; exact pureL_O l h
  | .cel _, h => by unfold D.pure at h; cases h
  | .obj _, h => by unfold D.pure at h; cases h
  | .fn _, _ => by unfold D.pureO; rfl
  | .ty _, _ => by unfold D.pureO; rfl
  | .scr _, _ => by unfold D.pureO; rfl
theorem pureL_O : ∀ l : List D, pureL l = true → pureOL l = true
  | [], _ => by unfold pureOL; rfl
  | d :: l, h => by
    unfold pureL at h
    unfold pureOL
    rw [Bool.and_eq_true] at h ⊢
    exact ⟨D.pure_O d h.1, pureL_O l h.2⟩
end

/-- the script: locked, or of the written part -/
def ScrAt (K : PySem.W.Frag) (H : Hp) (a : Addr) (xs : List V) : Prop := (∃ o, H a = some (.frz o (.lst xs))) ∨ SqL K (fun _ => none) a xs
theorem ScrAt.sq {K : PySem.W.Frag} {H : Hp} {a : Addr} {xs : List V} (h : ScrAt K H a xs) : SqL K H a xs := by
  rcases h with ⟨o, h⟩ | ⟨h | ⟨o, h⟩⟩ | h
  · exact .inl (.inr ⟨o, h⟩)
  · cases h
  · cases h
  · exact .inr h
theorem ScrAt.sq' {K : PySem.W.Frag} {H : Hp} {a : Addr} {xs : List V} {p : Prop} (h : ScrAt K H a xs ∨ (H a = some (.lst xs) ∧ p)) : SqL K H a xs := by
  rcases h with h | h
  · exact h.sq
  · exact .inl (.inl h.1)
section
variable (K : PySem.W.Frag) (mg : Str → Option Value)
mutual
def RV (m : WM) (H : Hp) : D → V → Prop
  | .non, v => v = .non
  | .bl b, v => v = .bl b
  | .int i, v => v = .int i
  | .str x, v => v = .str x
  | .tup l, v => ∃ a vs, v = .ref a ∧ H a = some (.tup vs) ∧ l.length ≤ sizeLine ∧ RVs m H l vs
  | .lst l, v => ∃ a vs, v = .ref a ∧ H a = some (.lst vs) ∧ a ∉ m.phi ∧ a ∉ m.av ∧ l.length ≤ sizeLine ∧ RVs m H l vs
  | .cel n, v => ∃ a, v = .ref a ∧ m.phi[n]? = some a
  | .obj n, v => ∃ p, v = .ref p.1 ∧ m.psi[n]? = some p
  | .fn x, v => ∃ f, v = .ref f ∧ mg x = some (.ref f)
  | .ty n, v => v = .ty n
  | .scr l, v => ∃ a, v = .ref a ∧ l.length ≤ sizeLine ∧ (ScrAt K H a (l.map V.int) ∨ (H a = some (.lst (l.map V.int)) ∧ a ∉ m.phi ∧ a ∉ m.av))
def RVs (m : WM) (H : Hp) : List D → List V → Prop
  | [], vs => vs = []
  | d :: l, vs => ∃ v r, vs = v :: r ∧ RV m H d v ∧ RVs m H l r
end

def FsR (m : WM) (H : Hp) (os : List (Str × D)) (fs : List (Str × V)) : Prop :=
  fs.map (·.1) = os.map (·.1) ∧ RVs K mg m H (os.map (·.2)) (fs.map (·.2)) ∧ pureOL (os.map (·.2)) = true ∧ os.length ≤ 900
def DsR (m : WM) (H : Hp) (os : List (Key × D)) (fs : List (Key × V)) : Prop :=
  fs.map (·.1) = os.map (·.1) ∧ RVs K mg m H (os.map (·.2)) (fs.map (·.2)) ∧ pureL (os.map (·.2)) = true ∧ os.length ≤ 100000
def ObR (m : WM) (H : Hp) (p : Addr × Addr) : Ob → Prop
  | .ins cls fs => ∃ C us, mg cls = some (.ref C) ∧ H p.1 = some (.ins C p.2 us) ∧ FsR K mg m H fs us
  | .dic kvs => ∃ us, H p.1 = some (.dK us) ∧ DsR K mg m H kvs us
/-- what an object is held as -/
def Rec (u : HO) : Prop := (∃ C d fs, u = .ins C d fs) ∨ ∃ kvs, u = .dK kvs

structure Sim (m : WM) (s : Sto) (H : Hp) : Prop where
  cl : m.phi.length = s.cel.length
  nd : m.phi.Nodup
  ce : ∀ (n : Nat) (a : Addr) (xs : List D), m.phi[n]? = some a → s.cel[n]? = some xs → pureL xs = true ∧ xs.length ≤ sizeLine ∧ ∃ vs, H a = some (.lst vs) ∧ RVs K mg m H xs vs
  al : ∀ a ∈ m.av, a ∉ m.phi ∧ ¬ Fr H a
  ol : m.psi.length = s.obj.length
  ob : ∀ (n : Nat) (p : Addr × Addr) (o : Ob), m.psi[n]? = some p → s.obj[n]? = some o → ObR K mg m H p o
  on : (m.psi.map (·.1)).Nodup
  tb : LamX.Tabs (Tb.T K) H

/-- how the heap goes on -/
structure Stp (m : WM) (H : Hp) (m' : WM) (H' : Hp) : Prop where
  phi : ∃ l, m'.phi = m.phi ++ l ∧ ∀ a ∈ l, Fr H a
  psi : ∃ l, m'.psi = m.psi ++ l ∧ ∀ p ∈ l, Fr H p.1
  av : m'.av = m.av
  tup : ∀ a xs, H a = some (.tup xs) → H' a = some (.tup xs)
  lst : ∀ a xs, H a = some (.lst xs) → a ∉ m.phi → H' a = some (.lst xs)
  frz : ∀ a o u, H a = some (.frz o u) → H' a = some (.frz o u)
  dom : ∀ a, Fr H' a → Fr H a
/-- the same, but for what is being made -/
structure Wk (m : WM) (H : Hp) (m' : WM) (H' : Hp) : Prop where
  phi : ∃ l, m'.phi = m.phi ++ l ∧ ∀ a ∈ l, Fr H a
  psi : ∃ l, m'.psi = m.psi ++ l
  av : ∀ a ∈ m'.av, a ∈ m.av ∨ Fr H a
  tup : ∀ a xs, H a = some (.tup xs) → H' a = some (.tup xs)
  lst : ∀ a xs, H a = some (.lst xs) → a ∉ m.phi → a ∉ m.av → H' a = some (.lst xs)
  frz : ∀ a o u, H a = some (.frz o u) → H' a = some (.frz o u)
end

section
variable {K : PySem.W.Frag} {mg : Str → Option Value} {m m' m1 m2 : WM} {H H' H1 H2 : Hp}
theorem Stp.refl : Stp m H m H := ⟨⟨[], by simp⟩, ⟨[], by simp⟩, rfl, fun _ _ h => h, fun _ _ h _ => h, fun _ _ _ h => h, fun _ h => h⟩
theorem none_ne {o : HO} {a b : Addr} (h : H a = some o) (h' : H b = none) : a ≠ b := ne_of_none h h'
theorem Stp.trans (x : Stp m H m1 H1) (y : Stp m1 H1 m2 H2) : Stp m H m2 H2 := by
  obtain ⟨l1, p1, q1⟩ := x.phi
  obtain ⟨l2, p2, q2⟩ := y.phi
  obtain ⟨r1, s1, t1⟩ := x.psi
  obtain ⟨r2, s2, t2⟩ := y.psi
  refine ⟨⟨l1 ++ l2, by rw [p2, p1, List.append_assoc], fun a h => ?_⟩, ⟨r1 ++ r2, by rw [s2, s1, List.append_assoc], fun p h => ?_⟩, y.av.trans x.av, fun a xs h => y.tup a xs (x.tup a xs h), fun a xs h n => ?_, fun a o u h => y.frz a o u (x.frz a o u h), fun a h => x.dom a (y.dom a h)⟩
  · rcases List.mem_append.mp h with h | h
    · exact q1 a h
    · exact x.dom a (q2 a h)
  · rcases List.mem_append.mp h with h | h
    · exact t1 p h
    · exact x.dom p.1 (t2 p h)
  · refine y.lst a xs (x.lst a xs h n) ?_
    rw [p1]
    intro z
    rcases List.mem_append.mp z with z | z
    · exact n z
    · exact (q1 a z).lst h
theorem Stp.wk (x : Stp m H m' H') : Wk m H m' H' := ⟨x.phi, let ⟨l, e, _⟩ := x.psi; ⟨l, e⟩, fun a h => .inl (by rw [← x.av]; exact h), x.tup, fun a xs h n _ => x.lst a xs h n, x.frz⟩
theorem Wk.refl : Wk m H m H := Stp.refl.wk
theorem Wk.trans (x : Wk m H m1 H1) (y : Wk m1 H1 m2 H2) (dom : ∀ a, Fr H1 a → Fr H a) : Wk m H m2 H2 := by
  obtain ⟨l1, p1, q1⟩ := x.phi
  obtain ⟨l2, p2, q2⟩ := y.phi
  obtain ⟨r1, s1⟩ := x.psi
  obtain ⟨r2, s2⟩ := y.psi
  refine ⟨⟨l1 ++ l2, by rw [p2, p1, List.append_assoc], fun a h => ?_⟩, ⟨r1 ++ r2, by rw [s2, s1, List.append_assoc]⟩, fun a h => ?_, fun a xs h => y.tup a xs (x.tup a xs h), fun a xs h n n2 => ?_, fun a o u h => y.frz a o u (x.frz a o u h)⟩
  · rcases List.mem_append.mp h with h | h
    · exact q1 a h
    · exact dom a (q2 a h)
  · rcases y.av a h with h | h
    · exact x.av a h
    · exact .inr (dom a h)
  · refine y.lst a xs (x.lst a xs h n n2) ?_ ?_
    · rw [p1]
      intro z
      rcases List.mem_append.mp z with z | z
      · exact n z
      · exact (q1 a z).lst h
    · intro z
      rcases x.av a z with z | z
      · exact n2 z
      · exact z.lst h
mutual
theorem RV.mono (x : Wk m H m' H') : ∀ (d : D) (v : V), RV K mg m H d v → RV K mg m' H' d v
  | .non, _, h => by unfold RV at h ⊢; exact h
  | .bl _, _, h => by unfold RV at h ⊢; exact h
  | .int _, _, h => by unfold RV at h ⊢; exact h
  | .str _, _, h => by unfold RV at h ⊢; exact h
  | .tup l, _, h => by
    unfold RV at h ⊢
    obtain ⟨a, vs, e, h1, hl, h2⟩ := h
    exact ⟨a, vs, e, x.tup a vs h1, hl, RVs.mono x l vs h2⟩
  | .lst l, _, h => by
    unfold RV at h ⊢
    obtain ⟨a, vs, e, h1, n1, n2, hl, h2⟩ := h
    obtain ⟨l1, p1, q1⟩ := x.phi
    refine ⟨a, vs, e, x.lst a vs h1 n1 n2, ?_, ?_, hl, RVs.mono x l vs h2⟩
    · rw [p1]
      intro z
      rcases List.mem_append.mp z with z | z
      · exact n1 z
      · exact (q1 a z).lst h1
    · intro z
      rcases x.av a z with z | z
      · exact n2 z
      · exact z.lst h1
  | .cel n, _, h => by
    unfold RV at h ⊢
    obtain ⟨a, e, h1⟩ := h
    obtain ⟨l1, p1, q1⟩ := x.phi
    refine ⟨a, e, ?_⟩
    rw [p1, List.getElem?_append_left (List.getElem?_eq_some_iff.mp h1).1]
    exact h1
  | .obj n, _, h => by
    unfold RV at h ⊢
    obtain ⟨a, e, h1⟩ := h
    obtain ⟨l1, p1⟩ := x.psi
    refine ⟨a, e, ?_⟩
    rw [p1, List.getElem?_append_left (List.getElem?_eq_some_iff.mp h1).1]
    exact h1
  | .fn _, _, h => by unfold RV at h ⊢; exact h
  | .ty _, _, h => by unfold RV at h ⊢; exact h
  | .scr _, _, h => by
    unfold RV at h ⊢
    obtain ⟨a, e, hl, h1⟩ := h
    rcases h1 with h1 | ⟨h1, n1, n2⟩
    · exact ⟨a, e, hl, .inl (h1.imp (fun ⟨o, q⟩ => ⟨o, x.frz a _ _ q⟩) fun q => q)⟩
    · obtain ⟨l1, p1, q1⟩ := x.phi
      refine ⟨a, e, hl, .inr ⟨x.lst a _ h1 n1 n2, ?_, ?_⟩⟩
      · rw [p1]
        intro z
        rcases List.mem_append.mp z with z | z
        · exact n1 z
        · exact (q1 a z).lst h1
      · intro z
        rcases x.av a z with z | z
        · exact n2 z
        · exact z.lst h1
theorem RVs.mono (x : Wk m H m' H') : ∀ (ds : List D) (vs : List V), RVs K mg m H ds vs → RVs K mg m' H' ds vs
  | [], _, h => by unfold RVs at h ⊢; exact h
  | d :: ds, _, h => by
    unfold RVs at h ⊢
    obtain ⟨v, r, e, h1, h2⟩ := h
    exact ⟨v, r, e, RV.mono x d v h1, RVs.mono x ds r h2⟩
end
theorem RVs.nil {vs : List V} : RVs K mg m H [] vs ↔ vs = [] := by rw [RVs]
theorem RVs.cons {d : D} {ds : List D} {vs : List V} : RVs K mg m H (d :: ds) vs ↔ ∃ v r, vs = v :: r ∧ RV K mg m H d v ∧ RVs K mg m H ds r := by rw [RVs]
theorem RVs.mk {d : D} {ds : List D} {v : V} {vs : List V} (h : RV K mg m H d v) (t : RVs K mg m H ds vs) : RVs K mg m H (d :: ds) (v :: vs) := RVs.cons.mpr ⟨v, vs, rfl, h, t⟩
theorem RVs.length : ∀ {ds : List D} {vs : List V}, RVs K mg m H ds vs → vs.length = ds.length
  | [], _, h => by rw [RVs.nil.mp h]; rfl
  | d :: ds, _, h => by
    obtain ⟨v, r, e, _, h2⟩ := RVs.cons.mp h
    rw [e, List.length_cons, List.length_cons, RVs.length h2]
theorem RVs.get : ∀ {ds : List D} {vs : List V} {i : Nat} {d : D}, RVs K mg m H ds vs → ds[i]? = some d → ∃ v, vs[i]? = some v ∧ RV K mg m H d v
  | [], _, _, _, _, e => by simp at e
  | d :: ds, _, 0, d', h, e => by
    obtain ⟨v, r, e1, h1, _⟩ := RVs.cons.mp h
    simp at e; subst e
    exact ⟨v, by rw [e1]; rfl, h1⟩
  | d :: ds, _, i + 1, d', h, e => by
    obtain ⟨v, r, e1, _, h2⟩ := RVs.cons.mp h
    obtain ⟨w, e2, h3⟩ := RVs.get (i := i) (d := d') h2 (by simpa using e)
    exact ⟨w, by rw [e1]; simpa using e2, h3⟩
theorem RVs.append : ∀ {ds es : List D} {vs ws : List V}, RVs K mg m H ds vs → RVs K mg m H es ws → RVs K mg m H (ds ++ es) (vs ++ ws)
  | [], _, _, _, h, t => by rw [RVs.nil.mp h]; exact t
  | d :: ds, _, _, _, h, t => by
    obtain ⟨v, r, e1, h1, h2⟩ := RVs.cons.mp h
    rw [e1]
    exact RVs.mk h1 (RVs.append h2 t)
theorem RVs.take : ∀ {ds : List D} {vs : List V} (n : Nat), RVs K mg m H ds vs → RVs K mg m H (ds.take n) (vs.take n)
  | _, _, 0, _ => by simp [RVs.nil]
  | [], _, n + 1, h => by rw [RVs.nil.mp h]; simp [RVs.nil]
  | d :: ds, _, n + 1, h => by
    obtain ⟨v, r, e1, h1, h2⟩ := RVs.cons.mp h
    rw [e1]
    exact RVs.mk h1 (RVs.take n h2)
theorem RVs.drop : ∀ {ds : List D} {vs : List V} (n : Nat), RVs K mg m H ds vs → RVs K mg m H (ds.drop n) (vs.drop n)
  | _, _, 0, h => h
  | [], _, n + 1, h => by rw [RVs.nil.mp h]; simp [RVs.nil]
  | d :: ds, _, n + 1, h => by
    obtain ⟨v, r, e1, h1, h2⟩ := RVs.cons.mp h
    rw [e1]
    exact RVs.drop n h2
theorem RVs.set : ∀ {ds : List D} {vs : List V} {d : D} {v : V} (i : Nat), RVs K mg m H ds vs → RV K mg m H d v → RVs K mg m H (ds.set i d) (vs.set i v)
  | [], _, _, _, _, h, _ => by rw [RVs.nil.mp h]; simp [RVs.nil]
  | d :: ds, _, _, _, 0, h, q => by
    obtain ⟨v, r, e1, h1, h2⟩ := RVs.cons.mp h
    rw [e1]
    exact RVs.mk q h2
  | d :: ds, _, _, _, i + 1, h, q => by
    obtain ⟨v, r, e1, h1, h2⟩ := RVs.cons.mp h
    rw [e1]
    exact RVs.mk h1 (RVs.set i h2 q)
theorem RVs.eraseIdx : ∀ {ds : List D} {vs : List V} (i : Nat), RVs K mg m H ds vs → RVs K mg m H (ds.eraseIdx i) (vs.eraseIdx i)
  | [], _, _, h => by rw [RVs.nil.mp h]; simp [RVs.nil]
  | d :: ds, _, 0, h => by
    obtain ⟨v, r, e1, h1, h2⟩ := RVs.cons.mp h
    rw [e1]
    exact h2
  | d :: ds, _, i + 1, h => by
    obtain ⟨v, r, e1, h1, h2⟩ := RVs.cons.mp h
    rw [e1]
    exact RVs.mk h1 (RVs.eraseIdx i h2)
theorem RVs.reverse : ∀ {ds : List D} {vs : List V}, RVs K mg m H ds vs → RVs K mg m H ds.reverse vs.reverse
  | [], _, h => by rw [RVs.nil.mp h]; simp [RVs.nil]
  | d :: ds, _, h => by
    obtain ⟨v, r, e1, h1, h2⟩ := RVs.cons.mp h
    rw [e1, List.reverse_cons, List.reverse_cons]
    exact (RVs.reverse h2).append (RVs.mk h1 (RVs.nil.mpr rfl))
theorem FsR.mono {os : List (Str × D)} {fs : List (Str × V)} (x : Wk m H m' H') (h : FsR K mg m H os fs) : FsR K mg m' H' os fs := ⟨h.1, RVs.mono x _ _ h.2.1, h.2.2⟩

theorem Rec.lst {u : HO} (h : Rec u) {xs : List V} : u ≠ .lst xs := fun e => by
  rcases h with ⟨C, d, fs, q⟩ | ⟨kvs, q⟩ <;> rw [q] at e <;> cases e
theorem Rec.tbl {u : HO} (h : Rec u) {xs} : u ≠ .tbl xs := fun e => by
  rcases h with ⟨C, d, fs, q⟩ | ⟨kvs, q⟩ <;> rw [q] at e <;> cases e
theorem ObR.map {p : Addr × Addr} {o : Ob} (h : ObR K mg m H p o) (f : ∀ ds vs, pureOL ds = true → RVs K mg m H ds vs → RVs K mg m' H' ds vs) (k : ∀ u, H p.1 = some u → Rec u → H' p.1 = some u) : ObR K mg m' H' p o := by
  cases o with
  | ins cls fs =>
    obtain ⟨C, us, h1, h2, h3, h4, h5, h6⟩ := h
    exact ⟨C, us, h1, k _ h2 (.inl ⟨_, _, _, rfl⟩), h3, f _ _ h5 h4, h5, h6⟩
  | dic kvs =>
    obtain ⟨us, h2, h3, h4, h5, h6⟩ := h
    exact ⟨us, k _ h2 (.inr ⟨_, rfl⟩), h3, f _ _ (pureL_O _ h5) h4, h5, h6⟩
theorem ObR.keep {p : Addr × Addr} {o : Ob} (h : ObR K mg m H p o) (w : Wk m H m' H') (k : ∀ u, H p.1 = some u → Rec u → H' p.1 = some u) : ObR K mg m' H' p o := h.map (fun ds vs _ r => RVs.mono w ds vs r) k
theorem ObR.at {p : Addr × Addr} {o : Ob} (h : ObR K mg m H p o) : ∃ u, H p.1 = some u ∧ Rec u := by
  cases o with
  | ins cls fs => exact let ⟨C, us, h1, h2, _⟩ := h; ⟨_, h2, .inl ⟨_, _, _, rfl⟩⟩
  | dic kvs => exact let ⟨us, h2, _⟩ := h; ⟨_, h2, .inr ⟨_, rfl⟩⟩

/-! ### only new objects -/
def Grw (H H' : Hp) : Prop := ∀ a o, H a = some o → H' a = some o
theorem Grw.refl : Grw H H := fun _ _ h => h
theorem Grw.trans (x : Grw H H1) (y : Grw H1 H2) : Grw H H2 := fun a o h => y a o (x a o h)
theorem Grw.new {p : Addr} {o : HO} (h : H p = none) : Grw H (upd H p o) := fun a u e => by
  rw [upd_ne (ne_of_none e h)]; exact e
theorem Grw.dom (x : Grw H H') {a : Addr} (h : Fr H' a) : Fr H a := fun o e => h o (x a o e)
theorem Grw.stp (x : Grw H H') : Stp m H m H' := ⟨⟨[], by simp⟩, ⟨[], by simp⟩, rfl, fun a xs h => x a _ h, fun a xs h _ => x a _ h, fun a o u h => x a _ h, fun a h => x.dom h⟩
theorem Sim.grw {s : Sto} (S : Sim K mg m s H) (x : Grw H H') : Sim K mg m s H' := by
  refine ⟨S.cl, S.nd, fun n a xs e1 e2 => ?_, fun a h => ⟨(S.al a h).1, fun z => (S.al a h).2 (x.dom z)⟩, S.ol, fun n p o e1 e2 => ?_, S.on, S.tb.ext x⟩
  · obtain ⟨h0, hz, vs, h1, h2⟩ := S.ce n a xs e1 e2
    exact ⟨h0, hz, vs, x _ _ h1, RVs.mono (Grw.stp x).wk _ _ h2⟩
  · exact (S.ob n p o e1 e2).keep (Grw.stp x).wk fun u h _ => x _ _ h
end
end G

end
section
namespace G
open PySem PySem.Spec L2
variable [Tb]
section
variable (K : PySem.W.Frag) (mg : Str → Option Value)
/-- an exception's class and own dict -/
def ExR (H : Hp) (x : Xn) (c : Value) (dx : Option Addr) : Prop := (∃ C, c = .ref C ∧ mg x.cls = some (.ref C)) ∧ match x.val with
  | none => True
  | some (f, i) => ∃ a, dx = some a ∧ H a = some (.xd [(f, .int i)])
def KontG {α β : Type} (R : WM → Hp → Sto → α → β → Prop) (W : XK) (m : WM) (H : Hp) (r : Res α) (Q : β → Hp → Prop) : Prop := match r with
  | .ok a s' => ∀ b m' H', Stp m H m' H' → m'.phi = m.phi → Sim K mg m' s' H' → R m' H' s' a b → Q b H'
  | .err x s' => ∀ c dx m' H', Stp m H m' H' → m'.phi = m.phi → Sim K mg m' s' H' → ExR mg H' x c dx → W c dx H'
  | .bad => False
def FrV (H : Hp) (v : V) : Prop := ∀ a, v = .ref a → Fr H a
/-- fr: a list that is new, which nothing else names -/
def RD (fr : Bool) (H0 : Hp) (m : WM) (H : Hp) (s : Sto) (d : D) (v : V) : Prop := RV K mg m H d v ∧ (fr = true → ∀ l a, d = .lst l → v = .ref a → Fr H0 a ∧ Sim K mg { m with av := a :: m.av } s H ∧ ∃ vs, H a = some (.lst vs) ∧ RVs K mg { m with av := a :: m.av } H l vs)
def EnvR (m : WM) (H : Hp) (env : Env) (σ : St) : Prop := env.length = σ.length ∧ ∀ (i : Nat) (d : D), env[i]? = some (some d) → ∃ v, σ[i]? = some (some v) ∧ RV K mg m H d v
def tE (W : WX) (fr : Bool) (f : E) : TE := fun σ H Q => ∃ m env s, Sim K mg m s H ∧ EnvR K mg m H env σ ∧ KontG K mg (RD K mg fr H) (fun c d H' => W c d σ H') m H (f env s) Q
def tT (W : WX) (g : EB) : TT := fun σ H Q => ∃ m env s, Sim K mg m s H ∧ EnvR K mg m H env σ ∧ KontG K mg (fun _ _ _ a b => a = b) (fun c d H' => W c d σ H') m H (g env s) Q
def tA (W : WX) (n : Nat) (g : EL) : TA := fun σ H Q => ∃ m env s, Sim K mg m s H ∧ EnvR K mg m H env σ ∧ KontG K mg (fun m' H' _ ds vs => RVs K mg m' H' ds vs ∧ ds.length = n) (fun c d H' => W c d σ H') m H (g env s) Q
end
abbrev SE (X : Cx) (W : WX) (fr : Bool) (e : Expr) (f : E) : Prop := PE X e (tE X.K X.mg W fr f)
abbrev ST (X : Cx) (W : WX) (e : Expr) (g : EB) : Prop := PT X e (tT X.K X.mg W g)
abbrev SA (X : Cx) (W : WX) (n : Nat) (es : List Expr) (g : EL) : Prop := PA X es (tA X.K X.mg W n g)
theorem PE.imp {X : Cx} {e : Expr} {t t' : TE} (h : PE X e t) (i : ∀ σ H Q, t' σ H Q → t σ H Q) : PE X e t' := ⟨fun pins s σ H Q I q => h.run pins s σ H Q I (i σ H Q q)⟩
theorem PT.imp {X : Cx} {e : Expr} {t t' : TT} (h : PT X e t) (i : ∀ σ H Q, t' σ H Q → t σ H Q) : PT X e t' := ⟨fun pins s σ H Q I q => h.run pins s σ H Q I (i σ H Q q)⟩
theorem PA.imp {X : Cx} {es : List Expr} {t t' : TA} (h : PA X es t) (i : ∀ σ H Q, t' σ H Q → t σ H Q) : PA X es t' := ⟨fun pos pins s σ H Q I q => h.run pos pins s σ H Q I (i σ H Q q)⟩
theorem PS.imp {X : Cx} {e : Stmt} {t t' : TS} (h : PS X e t) (i : ∀ D σ H, t' D σ H → t D σ H) : PS X e t' := ⟨fun pins s σ H D I q => h.run pins s σ H D I (i D σ H q)⟩
theorem PSs.imp {X : Cx} {e : List Stmt} {t t' : TS} (h : PSs X e t) (i : ∀ D σ H, t' D σ H → t D σ H) : PSs X e t' := ⟨fun pins s σ H D I q => h.run pins s σ H D I (i D σ H q)⟩
section
variable {K : PySem.W.Frag} {mg : Str → Option Value} {m m1 : WM} {H H1 : Hp} {α β γ δ : Type}
theorem EnvR.mono {env : Env} {σ : St} (E : EnvR K mg m H env σ) (x : Wk m H m1 H1) : EnvR K mg m1 H1 env σ := ⟨E.1, fun i d e => let ⟨v, q, r⟩ := E.2 i d e; ⟨v, q, RV.mono x d v r⟩⟩
theorem EnvR.set {env : Env} {σ : St} {d : D} {v : V} (E : EnvR K mg m H env σ) (i : Nat) (h : RV K mg m H d v) : EnvR K mg m H (env.set i (some d)) (σ.set i (some v)) := by
  refine ⟨by simp [E.1], fun j d' e => ?_⟩
  by_cases hj : i = j
  · subst hj
    rw [List.getElem?_set] at e
    have hl : i < env.length := by
      by_cases hh : i < env.length
      · exact hh
      · simp [hh] at e
    simp [hl] at e
    subst e
    refine ⟨v, ?_, h⟩
    rw [List.getElem?_set]
    simp [← E.1, hl]
  · rw [List.getElem?_set_ne hj] at e
    obtain ⟨w, q, r⟩ := E.2 j d' e
    exact ⟨w, by rw [List.getElem?_set_ne hj]; exact q, r⟩
theorem KontG.imp {R : WM → Hp → Sto → α → β → Prop} {W : XK} {r : Res α} {Q Q' : β → Hp → Prop} (h : KontG K mg R W m H r Q) (i : ∀ b H', Q b H' → Q' b H') : KontG K mg R W m H r Q' := by
  cases r with
  | ok a s' => exact fun b m' H' x1 x2 x3 x4 => i _ _ (h b m' H' x1 x2 x3 x4)
  | err x s' => exact h
  | bad => exact h
theorem KontG.move {R R1 : WM → Hp → Sto → α → β → Prop} {W : XK} {r : Res α} {Q : β → Hp → Prop} (h : KontG K mg R W m H r Q) (st : Stp m H m1 H1) (ph : m1.phi = m.phi) (hR : ∀ m' H' s' a b, R1 m' H' s' a b → R m' H' s' a b) : KontG K mg R1 W m1 H1 r Q := by
  cases r with
  | ok a s' => exact fun b m' H' x1 x2 x3 x4 => h b m' H' (st.trans x1) (x2.trans ph) x3 (hR _ _ _ _ _ x4)
  | err x s' => exact fun c dx m' H' x1 x2 x3 x4 => h c dx m' H' (st.trans x1) (x2.trans ph) x3 x4
  | bad => exact h
/-- behind the first part -/
structure After (K : PySem.W.Frag) (mg : Str → Option Value) (R : WM → Hp → Sto → α → β → Prop) (m : WM) (H : Hp) (a : α) (s1 : Sto) (b : β) (m1 : WM) (H1 : Hp) : Prop where
  st : Stp m H m1 H1
  ph : m1.phi = m.phi
  sim : Sim K mg m1 s1 H1
  rel : R m1 H1 s1 a b
theorem KontG.bind {R : WM → Hp → Sto → α → β → Prop} {R' : WM → Hp → Sto → γ → δ → Prop} {W : XK} {r : Res α} {k : α → Sto → Res γ} {Q : δ → Hp → Prop} (h : KontG K mg R' W m H (r.bind k) Q) :
    KontG K mg R W m H r (fun b H1 => ∃ a s1 m1, r = .ok a s1 ∧ After K mg R m H a s1 b m1 H1 ∧ KontG K mg R' W m H (k a s1) Q) := by
  cases r with
  | ok a s' => exact fun b m' H' x1 x2 x3 x4 => ⟨a, s', m', rfl, ⟨x1, x2, x3, x4⟩, h⟩
  | err x s' => exact h
  | bad => exact h
theorem FrV.back {H H1 : Hp} {v : V} (h : FrV H1 v) (dom : ∀ a, Fr H1 a → Fr H a) : FrV H v := fun a e => dom a (h a e)
theorem KontG.moveD {fr : Bool} {W : XK} {r : Res D} {Q : VK} (h : KontG K mg (RD K mg fr H) W m H r Q) (st : Stp m H m1 H1) (ph : m1.phi = m.phi) : KontG K mg (RD K mg fr H1) W m1 H1 r Q :=
  h.move st ph fun _ _ _ _ _ x => ⟨x.1, fun e l a e1 e2 => ⟨st.dom _ (x.2 e l a e1 e2).1, (x.2 e l a e1 e2).2⟩⟩
theorem KontG.ok {R : WM → Hp → Sto → α → β → Prop} {W : XK} {a : α} {b : β} {s : Sto} {Q : β → Hp → Prop} (h : KontG K mg R W m H (.ok a s) Q) (S : Sim K mg m s H) (r : R m H s a b) : Q b H := h b m H Stp.refl rfl S r
theorem KontG.okG {R : WM → Hp → Sto → α → β → Prop} {W : XK} {a : α} {b : β} {s : Sto} {Q : β → Hp → Prop} (h : KontG K mg R W m H (.ok a s) Q) (S : Sim K mg m s H) (g : Grw H H1) (r : R m H1 s a b) : Q b H1 := h b m H1 (Grw.stp g) rfl (S.grw g) r
theorem KontG.of {R : WM → Hp → Sto → α → β → Prop} {W : XK} {s : Sto} {o : Option α} {Q : β → Hp → Prop} (h : KontG K mg R W m H (Res.of s o) Q) : ∃ a, o = some a ∧ KontG K mg R W m H (.ok a s) Q := by
  cases o with
  | none => exact h.elim
  | some a => exact ⟨a, rfl, h⟩
end

/-- a new list, of what stood -/
def NewL (K : PySem.W.Frag) (mg : Str → Option Value) (m : WM) (H H' : Hp) (l : List D) (v : V) : Prop := ∃ a vs, v = .ref a ∧ H a = none ∧ H' a = some (.lst vs) ∧ RVs K mg m H l vs
/-! ### operations by values -/
abbrev G2 := Sto → D → D → Option D
abbrev GL := Sto → List D → Option D
def OkOp (K : PySem.W.Frag) (mg : Str → Option Value) (fr : Bool) (r : R2) (g : G2) : Prop := ∀ m s H x y dx dy d (Q : VK), Sim K mg m s H → RV K mg m H dx x → RV K mg m H dy y → g s dx dy = some d →
  (∀ v H', Grw H H' → RV K mg m H' d v → (fr = true → ∀ l, d = .lst l → NewL K mg m H H' l v) → Q v H') → r x y H Q
def OkU (K : PySem.W.Frag) (mg : Str → Option Value) (fr : Bool) (r : V → Hp → VK → Prop) (g : Sto → D → Option D) : Prop := ∀ m s H x dx d (Q : VK), Sim K mg m s H → RV K mg m H dx x → g s dx = some d →
  (∀ v H', Grw H H' → RV K mg m H' d v → (fr = true → ∀ l, d = .lst l → NewL K mg m H H' l v) → Q v H') → r x H Q
def OkL (K : PySem.W.Frag) (mg : Str → Option Value) (fr : Bool) (r : List V → Hp → VK → Prop) (g : GL) : Prop := ∀ m s H xs ds d (Q : VK), Sim K mg m s H → RVs K mg m H ds xs → g s ds = some d →
  (∀ v H', Grw H H' → RV K mg m H' d v → (fr = true → ∀ l, d = .lst l → NewL K mg m H H' l v) → Q v H') → r xs H Q
def eVar (i : Nat) : E := fun env s => match env[i]? with
  | some (some d) => .ok d s
  | _ => .bad
def eC (d : D) : E := fun _ s => .ok d s
def eOp (g : G2) (a b : E) : E := fun env s => (a env s).bind fun x s1 => (b env s1).bind fun y s2 => Res.of s2 (g s2 x y)
def eUn (g : Sto → D → Option D) (a : E) : E := fun env s => (a env s).bind fun x s1 => Res.of s1 (g s1 x)
def eFn (g : GL) (a : EL) : E := fun env s => (a env s).bind fun xs s1 => Res.of s1 (g s1 xs)
def lNil : EL := fun _ s => .ok [] s
def lCons (a : E) (r : EL) : EL := fun env s => (a env s).bind fun x s1 => (r env s1).bind fun xs s2 => .ok (x :: xs) s2
def asB : D → Option Bool
  | .bl b => some b
  | _ => none
def bVal (a : E) : EB := fun env s => (a env s).bind fun x s1 => Res.of s1 (asB x)
def bNot (a : EB) : EB := fun env s => (a env s).bind fun x s1 => .ok (!x) s1
def bAnd (a b : EB) : EB := fun env s => (a env s).bind fun x s1 => if x = true then b env s1 else .ok false s1
def bOr (a b : EB) : EB := fun env s => (a env s).bind fun x s1 => if x = true then .ok true s1 else b env s1
def eAnd (a b : E) : E := fun env s => (a env s).bind fun x s1 => match x with
  | .bl true => b env s1
  | .bl false => .ok (.bl false) s1
  | _ => .bad
def eOr (a b : E) : E := fun env s => (a env s).bind fun x s1 => match x with
  | .bl true => .ok (.bl true) s1
  | .bl false => b env s1
  | _ => .bad
def eNot (a : E) : E := fun env s => (a env s).bind fun x s1 => match x with
  | .bl c => .ok (.bl (!c)) s1
  | _ => .bad
def eIf (c : EB) (a b : E) : E := fun env s => (c env s).bind fun x s1 => if x = true then a env s1 else b env s1
def eTup (a : EL) : E := fun env s => (a env s).bind fun xs s1 => .ok (.tup xs) s1
def eLst (a : EL) : E := fun env s => (a env s).bind fun xs s1 => .ok (.lst xs) s1
def eChain (g g' : G2) (a b c : E) : E := fun env s => (a env s).bind fun x s1 => (b env s1).bind fun y s2 => (Res.of s2 (g s2 x y)).bind fun z s3 => match z with
  | .bl true => (c env s3).bind fun w s4 => Res.of s4 (g' s4 y w)
  | .bl false => .ok (.bl false) s3
  | _ => .bad

section
variable {X : Cx} {W : WX} {fr fr2 fr3 fr4 : Bool} {e a b c : Expr} {fa fb fc : E} {ga gb : EB} {pos : Pos}
theorem RV.bl' {K mg m H b v} (h : RV K mg m H (.bl b) v) : v = .bl b := by unfold RV at h; exact h
theorem RV.int' {K mg m H b v} (h : RV K mg m H (.int b) v) : v = .int b := by unfold RV at h; exact h
theorem RV.str' {K mg m H b v} (h : RV K mg m H (.str b) v) : v = .str b := by unfold RV at h; exact h
theorem RV.non' {K mg m H v} (h : RV K mg m H .non v) : v = .non := by unfold RV at h; exact h
theorem RV.bl {K mg m H b} : RV K mg m H (.bl b) (.bl b) := by unfold RV; rfl
theorem RV.int {K mg m H b} : RV K mg m H (.int b) (.int b) := by unfold RV; rfl
theorem RV.str {K mg m H b} : RV K mg m H (.str b) (.str b) := by unfold RV; rfl
theorem RV.non {K mg m H} : RV K mg m H .non .non := by unfold RV; rfl
theorem FrV.scalar {H : Hp} {v : V} (h : ∀ a, v ≠ .ref a) : FrV H v := fun a e => absurd e (h a)
/-- a fresh one may be told as any -/
theorem seF (h : SE X W fr e fa) : SE X W false e fa := PE.imp h fun σ H Q ⟨m, env, s, S, E, k⟩ => ⟨m, env, s, S, E, k.move Stp.refl rfl fun _ _ _ _ _ x => ⟨x.1, fun z => nomatch z⟩⟩
theorem se_var {i : Nat} {x : Str} (h : PE X (.Name x pos) (tVar i)) : SE X W false (.Name x pos) (eVar i) := PE.imp h fun σ H Q ⟨m, env, s, S, E, k⟩ => by
  have k' : KontG X.K X.mg (RD X.K X.mg false H) (fun c d H' => W c d σ H') m H (match env[i]? with | some (some d) => .ok d s | _ => .bad) Q := k
  split at k'
  · rename_i d e
    obtain ⟨v, q, r⟩ := E.2 i d e
    exact ⟨v, q, k'.ok S ⟨r, fun z => nomatch z⟩⟩
  · exact k'.elim
theorem se_c {d : D} {v : V} (h : PE X e (tC v)) (hv : ∀ m H, RV X.K X.mg m H d v) (hs : fr = false ∨ ∀ l, d ≠ .lst l) : SE X W fr e (eC d) := PE.imp h fun σ H Q ⟨m, env, s, S, E, k⟩ => k.ok S ⟨hv m H, fun z => by
  rcases hs with hs | hs
  · rw [hs] at z; cases z
  · exact fun l _ e => absurd e (hs l)⟩
theorem se_int {i : Int} {j : Nat} : SE X W true (.Constant (.int i) j pos) (eC (.int i)) := se_c pe_int (fun _ _ => RV.int) (.inr fun _ z => nomatch z)
theorem se_bl {i : Bool} {j : Nat} : SE X W true (.Constant (.bool i) j pos) (eC (.bl i)) := se_c pe_bl (fun _ _ => RV.bl) (.inr fun _ z => nomatch z)
theorem se_str {i : Str} {j : Nat} : SE X W true (.Constant (.str i) j pos) (eC (.str i)) := se_c pe_str (fun _ _ => RV.str) (.inr fun _ z => nomatch z)
theorem se_non {j : Nat} : SE X W true (.Constant .none j pos) (eC .non) := se_c pe_non (fun _ _ => RV.non) (.inr fun _ z => nomatch z)
theorem se_fn {x : Str} {f : Addr} (hg : Gl X x) (hm : X.mg x = some (.ref f)) (hd : (x == ("__debug__" : Str)) = false := by decide) : SE X W false (.Name x pos) (eC (.fn x)) :=
  se_c (pe_glob (v := .ref f) hg hm rfl hd) (fun m H => by unfold RV; exact ⟨f, rfl, hm⟩) (.inl rfl)

theorem wk_new {m : WM} {H H' : Hp} {a : Addr} (g : Grw H H') (hn : H a = none) : Wk m H { m with av := a :: m.av } H' := by
  refine ⟨⟨[], by simp⟩, ⟨[], by simp⟩, fun b hb => ?_, fun b zs hb => g _ _ hb, fun b zs hb _ _ => g _ _ hb, fun b o u hb => g _ _ hb⟩
  rcases List.mem_cons.mp hb with e | hb
  · exact .inr (by rw [e]; exact Fr.of hn)
  · exact .inl hb
/-- what stood does not name what is new -/
theorem Sim.avNew {K : PySem.W.Frag} {mg : Str → Option Value} {m : WM} {s : Sto} {H H' : Hp} {a : Addr} (S : Sim K mg m s H) (g : Grw H H') (hn : H a = none) (hs : ∃ vs, H' a = some (.lst vs)) : Sim K mg { m with av := a :: m.av } s H' := by
  have w := wk_new (m := m) g hn
  refine ⟨S.cl, S.nd, fun n b zs e1 e2 => ?_, fun b hb => ?_, S.ol, fun n p o e1 e2 => ?_, S.on, S.tb.ext g⟩
  · obtain ⟨h0, hz', vs, h1, h2⟩ := S.ce n b zs e1 e2
    exact ⟨h0, hz', vs, g _ _ h1, RVs.mono w _ _ h2⟩
  · rcases List.mem_cons.mp hb with e | hb
    · subst e
      refine ⟨fun z => ?_, fun z => let ⟨_, e⟩ := hs; z.lst e⟩
      obtain ⟨i, hi⟩ := List.mem_iff_getElem?.mp z
      have hl2 : i < s.cel.length := by rw [← S.cl]; exact (List.getElem?_eq_some_iff.mp hi).1
      obtain ⟨_, _, vs, h1, _⟩ := S.ce i b s.cel[i] hi (List.getElem?_eq_getElem hl2)
      rw [hn] at h1; cases h1
    · exact ⟨(S.al b hb).1, fun z => (S.al b hb).2 (g.dom z)⟩
  · exact (S.ob n p o e1 e2).keep w fun u h _ => g _ _ h
/-- two parts in a row -/
theorem use2 {K : PySem.W.Frag} {mg : Str → Option Value} {k : D → D → Sto → Res D} {σ : St} {H : Hp} {Q : VK} {P2 : V → V → Hp → Prop} {m : WM} {env : Env} {s : Sto} (S : Sim K mg m s H) (E : EnvR K mg m H env σ)
    (h : KontG K mg (RD K mg fr H) (fun c d H' => W c d σ H') m H ((fa env s).bind fun x s1 => (fb env s1).bind fun y s2 => k x y s2) Q)
    (n : ∀ x y m2 H2 s2 dx dy, Stp m H m2 H2 → m2.phi = m.phi → Sim K mg m2 s2 H2 → EnvR K mg m2 H2 env σ → RV K mg m2 H2 dx x → RV K mg m2 H2 dy y → KontG K mg (RD K mg fr H2) (fun c d H' => W c d σ H') m2 H2 (k dx dy s2) Q → P2 x y H2) :
    tE K mg W false fa σ H fun x H1 => tE K mg W false fb σ H1 fun y H2 => P2 x y H2 := by
  refine ⟨m, env, s, S, E, (h.bind).imp fun x H1 ⟨dx, s1, m1, e1, A, k1⟩ => ?_⟩
  refine ⟨m1, env, s1, A.sim, E.mono A.st.wk, ((k1.moveD A.st A.ph).bind).imp fun y H2 ⟨dy, s2, m2, e2, B, k2⟩ => ?_⟩
  exact n x y m2 H2 s2 dx dy (A.st.trans B.st) (B.ph.trans A.ph) B.sim ((E.mono A.st.wk).mono B.st.wk) (RV.mono B.st.wk _ _ A.rel.1) B.rel.1 (k2.moveD B.st B.ph)
theorem fin_of {K : PySem.W.Frag} {mg : Str → Option Value} {Wx : XK} {m : WM} {H : Hp} {s : Sto} {o : Option D} {Q : VK} (S : Sim K mg m s H) (h : KontG K mg (RD K mg fr H) Wx m H (Res.of s o) Q) :
    ∃ d, o = some d ∧ ∀ v H', Grw H H' → RV K mg m H' d v → (fr = true → ∀ l, d = .lst l → NewL K mg m H H' l v) → Q v H' := by
  obtain ⟨d, e, k⟩ := h.of
  refine ⟨d, e, fun v H' g r q => k.okG S g ⟨r, fun z l a e1 e2 => ?_⟩⟩
  obtain ⟨b, vs, e3, hn, h1, r1⟩ := q z l e1
  subst e2
  cases e3
  exact ⟨Fr.of hn, S.avNew g hn ⟨_, h1⟩, vs, h1, RVs.mono (wk_new g hn) _ _ r1⟩
theorem se_op {op : Operator} {r : R2} {g : G2} (ho : OpR X (binaryOp op) r) (hg : OkOp X.K X.mg fr r g) (ha : SE X W fr2 a fa) (hb : SE X W fr3 b fb) : SE X W fr (.BinOp a op b pos) (eOp g fa fb) := PE.imp (pe_op ho (seF ha) (seF hb)) fun σ H Q ⟨m, env, s, S, E, k⟩ => by
  refine use2 S E k fun x y m2 H2 s2 dx dy _ _ S2 E2 rx ry k2 => ?_
  obtain ⟨d, e, q⟩ := fin_of S2 k2
  exact hg m2 s2 H2 x y dx dy d Q S2 rx ry e q
theorem se_cmp {op : CmpOp} {r : R2} {g : G2} (ho : OpR X (compareOp op) r) (hg : OkOp X.K X.mg fr r g) (ha : SE X W fr2 a fa) (hb : SE X W fr3 b fb) (hm : behindInMarks op b = false) : SE X W fr (.Compare a [op] [b] pos) (eOp g fa fb) :=
  PE.imp (pe_cmpR ho (seF ha) (seF hb) hm) fun σ H Q ⟨m, env, s, S, E, k⟩ => by
    refine use2 S E k fun x y m2 H2 s2 dx dy _ _ S2 E2 rx ry k2 => ?_
    obtain ⟨d, e, q⟩ := fin_of S2 k2
    exact hg m2 s2 H2 x y dx dy d Q S2 rx ry e q
/-- a value as a test -/
theorem tt_of {K : PySem.W.Frag} {mg : Str → Option Value} {σ : St} {H : Hp} {Q : Bool → Hp → Prop} (h : tT K mg W (bVal fa) σ H Q) : tE K mg W false fa σ H fun x H1 => ∃ k, x = .bl k ∧ Q k H1 := by
  obtain ⟨m, env, s, S, E, k⟩ := h
  refine ⟨m, env, s, S, E, (KontG.bind (R := RD K mg false H) k).imp fun x H1 ⟨dx, s1, m1, e1, A, k1⟩ => ?_⟩
  obtain ⟨c, e, k2⟩ := k1.of
  cases dx with
  | bl c' =>
    cases e
    exact ⟨c, A.rel.1.bl', (k2.move A.st A.ph fun _ _ _ _ _ z => z).ok A.sim rfl⟩
  | _ => cases e
theorem st_cmp {op : CmpOp} {r : R2} {g : G2} (ho : OpR X (compareOp op) r) (hg : OkOp X.K X.mg false r g) (ha : SE X W fr2 a fa) (hb : SE X W fr3 b fb) (hm : behindInMarks op b = false) : ST X W (.Compare a [op] [b] pos) (bVal (eOp g fa fb)) :=
  PT.imp (pt_cmpR ho (seF ha) (seF hb) hm) fun σ H Q h => by
    obtain ⟨m, env, s, S, E, k⟩ := tt_of h
    refine use2 (fr := false) S E k fun x y m2 H2 s2 dx dy _ _ S2 E2 rx ry k2 => ?_
    obtain ⟨d, e, q⟩ := fin_of S2 k2
    exact hg m2 s2 H2 x y dx dy d _ S2 rx ry e q
theorem st_val (h : SE X W fr a fa) (he : ∀ whole, isTrue a X.env whole = (do let v ← whole; standAt a.pos; holding [v] (truthy v)) := by intro _; rfl) : ST X W a (bVal fa) := PT.imp (pt_val (seF h) he) fun σ H Q h => tt_of h
theorem st_not (h : ST X W a ga) : ST X W (.UnaryOp .Not a pos) (bNot ga) := PT.imp (pt_not h) fun σ H Q ⟨m, env, s, S, E, k⟩ =>
  ⟨m, env, s, S, E, (KontG.bind k).imp fun x H1 ⟨dx, s1, m1, e1, A, k1⟩ => (k1.move A.st A.ph fun _ _ _ _ _ z => z).ok A.sim (by rw [A.rel])⟩
/-- and, or: the chain's parts -/
def SW (X : Cx) (W : WX) (e : Expr) (g : EB) : Prop := PW X e (tT X.K X.mg W g)
theorem PW.imp {X : Cx} {e : Expr} {t t' : TT} (h : PW X e t) (i : ∀ σ H Q, t' σ H Q → t σ H Q) : PW X e t' := ⟨fun wh pins s σ H Q I q => h.run wh pins s σ H Q I (i σ H Q q)⟩
theorem sw_and1 (h : ST X W a ga) : SW X W (.BoolOp .And [a] pos) ga := pw_and1 h
theorem sw_or1 (h : ST X W a ga) : SW X W (.BoolOp .Or [a] pos) ga := pw_or1 h
theorem sw_and {rest : List Expr} (ha : ST X W a ga) (hb : SW X W (.BoolOp .And (b :: rest) pos) gb) : SW X W (.BoolOp .And (a :: b :: rest) pos) (bAnd ga gb) := PW.imp (pw_and ha hb) fun σ H Q ⟨m, env, s, S, E, k⟩ => by
  refine ⟨m, env, s, S, E, (KontG.bind k).imp fun x H1 ⟨dx, s1, m1, e1, A, k1⟩ => ?_⟩
  have k2 := k1.move A.st A.ph fun _ _ _ _ _ z => z
  have er := A.rel
  subst er
  cases dx with
  | true => exact ⟨m1, env, s1, A.sim, E.mono A.st.wk, k2⟩
  | false => exact k2.ok A.sim rfl
theorem sw_or {rest : List Expr} (ha : ST X W a ga) (hb : SW X W (.BoolOp .Or (b :: rest) pos) gb) : SW X W (.BoolOp .Or (a :: b :: rest) pos) (bOr ga gb) := PW.imp (pw_or ha hb) fun σ H Q ⟨m, env, s, S, E, k⟩ => by
  refine ⟨m, env, s, S, E, (KontG.bind k).imp fun x H1 ⟨dx, s1, m1, e1, A, k1⟩ => ?_⟩
  have k2 := k1.move A.st A.ph fun _ _ _ _ _ z => z
  have er := A.rel
  subst er
  cases dx with
  | true => exact k2.ok A.sim rfl
  | false => exact ⟨m1, env, s1, A.sim, E.mono A.st.wk, k2⟩
theorem SW.st (h : SW X W a ga) : ST X W a ga := PW.pt h
/-- and, or, not as values -/
theorem se_one {op} (h : SE X W fr a fa) : SE X W fr (.BoolOp op [a] pos) fa := pe_one h
theorem se_and {rest : List Expr} (ha : SE X W fr2 a fa) (hb : SE X W fr (.BoolOp .And (b :: rest) pos) fb) : SE X W fr (.BoolOp .And (a :: b :: rest) pos) (eAnd fa fb) := PE.imp (pe_and (seF ha) hb) fun σ H Q ⟨m, env, s, S, E, k⟩ => by
  refine ⟨m, env, s, S, E, (KontG.bind (R := RD X.K X.mg false H) k).imp fun x H1 ⟨dx, s1, m1, e1, A, k1⟩ => ?_⟩
  have k2 := k1.moveD A.st A.ph
  cases dx with
  | bl c =>
    have er := A.rel.1.bl'
    subst er
    cases c with
    | true => exact ⟨true, rfl, m1, env, s1, A.sim, E.mono A.st.wk, k2⟩
    | false => exact ⟨false, rfl, k2.ok A.sim ⟨RV.bl, fun _ _ _ z => nomatch z⟩⟩
  | _ => exact k2.elim
theorem se_or {rest : List Expr} (ha : SE X W fr2 a fa) (hb : SE X W fr (.BoolOp .Or (b :: rest) pos) fb) : SE X W fr (.BoolOp .Or (a :: b :: rest) pos) (eOr fa fb) := PE.imp (pe_or (seF ha) hb) fun σ H Q ⟨m, env, s, S, E, k⟩ => by
  refine ⟨m, env, s, S, E, (KontG.bind (R := RD X.K X.mg false H) k).imp fun x H1 ⟨dx, s1, m1, e1, A, k1⟩ => ?_⟩
  have k2 := k1.moveD A.st A.ph
  cases dx with
  | bl c =>
    have er := A.rel.1.bl'
    subst er
    cases c with
    | true => exact ⟨true, rfl, k2.ok A.sim ⟨RV.bl, fun _ _ _ z => nomatch z⟩⟩
    | false => exact ⟨false, rfl, m1, env, s1, A.sim, E.mono A.st.wk, k2⟩
  | _ => exact k2.elim
theorem se_not (ha : SE X W fr2 a fa) : SE X W true (.UnaryOp .Not a pos) (eNot fa) := PE.imp (pe_not (seF ha)) fun σ H Q ⟨m, env, s, S, E, k⟩ => by
  refine ⟨m, env, s, S, E, (KontG.bind (R := RD X.K X.mg false H) k).imp fun x H1 ⟨dx, s1, m1, e1, A, k1⟩ => ?_⟩
  have k2 := k1.moveD A.st A.ph
  cases dx with
  | bl c =>
    have er := A.rel.1.bl'
    subst er
    exact ⟨c, rfl, k2.ok A.sim ⟨RV.bl, fun _ _ _ z => nomatch z⟩⟩
  | _ => exact k2.elim
theorem se_if (hc : ST X W c ga) (ha : SE X W fr a fa) (hb : SE X W fr b fb) : SE X W fr (.IfExp c a b pos) (eIf ga fa fb) := PE.imp (pe_ifExp hc ha hb) fun σ H Q ⟨m, env, s, S, E, k⟩ => by
  refine ⟨m, env, s, S, E, (KontG.bind k).imp fun x H1 ⟨dx, s1, m1, e1, A, k1⟩ => ?_⟩
  have k2 := k1.moveD A.st A.ph
  have er := A.rel
  subst er
  cases dx with
  | true => exact ⟨m1, env, s1, A.sim, E.mono A.st.wk, k2⟩
  | false => exact ⟨m1, env, s1, A.sim, E.mono A.st.wk, k2⟩
theorem se_un {op : UnaryOp} {r : V → Hp → VK → Prop} {g : Sto → D → Option D} (ho : UnR X (unaryOp op) r) (hg : OkU X.K X.mg fr r g) (ha : SE X W fr2 a fa) : SE X W fr (.UnaryOp op a pos) (eUn g fa) := PE.imp (pe_un ho (seF ha)) fun σ H Q ⟨m, env, s, S, E, k⟩ => by
  refine ⟨m, env, s, S, E, (KontG.bind (R := RD X.K X.mg false H) k).imp fun x H1 ⟨dx, s1, m1, e1, A, k1⟩ => ?_⟩
  obtain ⟨d, e, q⟩ := fin_of A.sim (k1.moveD A.st A.ph)
  exact hg m1 s1 H1 x dx d Q A.sim A.rel.1 e q
theorem se_chain {op op' : CmpOp} {r r' : R2} {g g' : G2} (ho : OpR X (compareOp op) r) (ho' : OpR X (compareOp op') r') (hg : OkOp X.K X.mg true r g) (hg' : OkOp X.K X.mg true r' g') (ha : SE X W fr2 a fa) (hb : SE X W fr3 b fb) (hc : SE X W fr4 c fc)
    (hch : ∀ {ta tb tc : TE}, PE X a ta → PE X b tb → PE X c tc → PE X (.Compare a [op, op'] [b, c] pos) (tChain r r' ta tb tc)) : SE X W true (.Compare a [op, op'] [b, c] pos) (eChain g g' fa fb fc) := PE.imp (hch (seF ha) (seF hb) (seF hc)) fun σ H Q ⟨m, env, s, S, E, k⟩ => by
  refine use2 S E k fun x y m2 H2 s2 dx dy st2 ph2 S2 E2 rx ry k2 => ?_
  have k3 := KontG.bind (R := RD X.K X.mg true H2) k2
  obtain ⟨d, e, q⟩ := fin_of S2 k3
  refine hg m2 s2 H2 x y dx dy d _ S2 rx ry e fun v H3 g3 r3 f3 => ?_
  obtain ⟨d', s3, m3, e3, A, k4⟩ := q v H3 g3 r3 f3
  have k5 := k4.moveD A.st A.ph
  cases d' with
  | bl c =>
    have er := A.rel.1.bl'
    subst er
    refine ⟨c, rfl, ?_⟩
    cases c with
    | true =>
      rw [if_pos rfl]
      refine ⟨m3, env, s3, A.sim, E2.mono A.st.wk, (KontG.bind (R := RD X.K X.mg false H3) k5).imp fun w H4 ⟨dw, s4, m4, e4, B, k6⟩ => ?_⟩
      obtain ⟨d4, e4, q4⟩ := fin_of B.sim (k6.moveD B.st B.ph)
      exact hg' m4 s4 H4 y w dy dw d4 Q B.sim (RV.mono B.st.wk _ _ (RV.mono A.st.wk _ _ ry)) B.rel.1 e4 q4
    | false =>
      rw [if_neg (by decide)]
      exact k5.ok A.sim ⟨RV.bl, fun _ _ _ z => nomatch z⟩
  | _ => exact k5.elim

/-! argument lists, displays -/
variable {es : List Expr} {gl : EL} {n : Nat}
theorem sa_nil : SA X W 0 [] lNil := PA.imp pa_nil fun σ H Q ⟨m, env, s, S, E, k⟩ => k.ok S ⟨RVs.nil.mpr rfl, rfl⟩
theorem sa_cons (ha : SE X W fr e fa) (hr : SA X W n es gl) (hs : starEach (e :: es) X.env = (false, eval e X.env) :: starEach es X.env := by rfl) : SA X W (n + 1) (e :: es) (lCons fa gl) := PA.imp (pa_cons (seF ha) hr hs) fun σ H Q ⟨m, env, s, S, E, k⟩ => by
  refine ⟨m, env, s, S, E, (KontG.bind (R := RD X.K X.mg false H) k).imp fun x H1 ⟨dx, s1, m1, e1, A, k1⟩ => ?_⟩
  refine ⟨m1, env, s1, A.sim, E.mono A.st.wk, (KontG.bind (k1.move A.st A.ph fun _ _ _ _ _ z => z)).imp fun xs H2 ⟨dxs, s2, m2, e2, B, k2⟩ => ?_⟩
  exact (k2.move B.st B.ph fun _ _ _ _ _ z => z).ok B.sim ⟨RVs.mk (RV.mono B.st.wk _ _ A.rel.1) B.rel.1, by rw [List.length_cons, B.rel.2]⟩
theorem line1000 {n : Nat} (h : n ≤ 1000) : n ≤ sizeLine := Nat.le_trans h (by decide)
theorem RVs.grw {K mg m H H' ds vs} (h : RVs K mg m H ds vs) (g : Grw H H') : RVs K mg m H' ds vs := RVs.mono (Grw.stp g).wk _ _ h
theorem RV.grw {K mg m H H' d v} (h : RV K mg m H d v) (g : Grw H H') : RV K mg m H' d v := RV.mono (Grw.stp g).wk _ _ h
theorem RV.newT {K mg m H ds vs} {p : Addr} (h : RVs K mg m H ds vs) (hp : H p = none) (hl : ds.length ≤ sizeLine) : RV K mg m (upd H p (.tup vs)) (.tup ds) (.ref p) := by
  unfold RV
  exact ⟨p, vs, rfl, upd_same, hl, h.grw (Grw.new hp)⟩
theorem Sim.noPhi {K mg m s H} (S : Sim K mg m s H) {p : Addr} (hp : H p = none) : p ∉ m.phi := fun z => by
  obtain ⟨i, hi⟩ := List.mem_iff_getElem?.mp z
  have hl := (List.getElem?_eq_some_iff.mp hi).1
  have hl2 : i < s.cel.length := by rw [← S.cl]; exact hl
  obtain ⟨_, _, vs, h1, _⟩ := S.ce i p s.cel[i] hi (List.getElem?_eq_getElem hl2)
  rw [hp] at h1; cases h1
theorem Sim.noAv {K mg m s H} (S : Sim K mg m s H) {p : Addr} (hp : H p = none) : p ∉ m.av := fun z => (S.al p z).2 (Fr.of hp)
theorem RV.newL {K mg m s H ds vs} {p : Addr} (S : Sim K mg m s H) (h : RVs K mg m H ds vs) (hp : H p = none) (hl : ds.length ≤ sizeLine) : RV K mg m (upd H p (.lst vs)) (.lst ds) (.ref p) := by
  unfold RV
  exact ⟨p, vs, rfl, upd_same, S.noPhi hp, S.noAv hp, hl, h.grw (Grw.new hp)⟩
theorem fr_new {H : Hp} {p : Addr} (hp : H p = none) : FrV H (.ref p) := fun a e => by cases e; exact Fr.of hp
theorem se_tup {x1} (h : SA X W n es gl) (hn : n ≤ 1000 := by decide) : SE X W true (.Tuple es x1 pos) (eTup gl) := PE.imp (pe_tup h) fun σ H Q ⟨m, env, s, S, E, k⟩ => by
  refine ⟨m, env, s, S, E, (KontG.bind k).imp fun xs H1 ⟨dxs, s1, m1, e1, A, k1⟩ => ?_⟩
  have hl : dxs.length ≤ sizeLine := line1000 (by rw [A.rel.2]; exact hn)
  refine ⟨by rw [A.rel.1.length]; exact hl, fun p hp => ?_⟩
  exact (k1.moveD A.st A.ph).okG A.sim (Grw.new hp) ⟨RV.newT A.rel.1 hp hl, fun _ _ _ z => nomatch z⟩
theorem se_lst (h : SA X W n es gl) (hn : n ≤ 1000 := by decide) : SE X W true (.List es pos) (eLst gl) := PE.imp (pe_lst h) fun σ H Q ⟨m, env, s, S, E, k⟩ => by
  refine ⟨m, env, s, S, E, (KontG.bind k).imp fun xs H1 ⟨dxs, s1, m1, e1, A, k1⟩ => ?_⟩
  have hl : dxs.length ≤ sizeLine := line1000 (by rw [A.rel.2]; exact hn)
  refine ⟨by rw [A.rel.1.length]; exact hl, fun p hp => ?_⟩
  exact (k1.moveD A.st A.ph).okG A.sim (Grw.new hp) ⟨RV.newL A.sim A.rel.1 hp hl, fun _ l a _ e2 => by cases e2; cases ‹D.lst dxs = D.lst l›; exact ⟨Fr.of hp, A.sim.avNew (Grw.new hp) hp ⟨_, upd_same⟩, xs, upd_same, RVs.mono (wk_new (Grw.new hp) hp) _ _ A.rel.1⟩⟩
/-- a built-in's call -/
theorem se_callB {id : String} {x : Str} {p : Pos} {r : List V → Hp → VK → Prop} {g : GL} (hc : CallR X (.builtin id) r) (hg : OkL X.K X.mg fr r g) (hgl : Gl X x) (hm : X.mg x = none) (hv : bootBuiltins x = some (.builtin id)) (ha : SA X W n (e :: es) gl) (hn : x ≠ "__name__" := by decide) (hdb : (x == ("__debug__" : Str)) = false := by decide)
    (he : starEach (e :: es) X.env = (false, eval e X.env) :: starEach es X.env := by rfl) (hpl : (backTo pos (starEach es X.env)).any (·.1) = false := by rfl) : SE X W fr (.Call (.Name x p) (e :: es) [] pos) (eFn g gl) :=
  PE.imp (pe_callB hc hgl hm hv ha hn hdb he hpl) fun σ H Q ⟨m, env, s, S, E, k⟩ => by
    refine ⟨m, env, s, S, E, (KontG.bind k).imp fun xs H1 ⟨dxs, s1, m1, e1, A, k1⟩ => ?_⟩
    obtain ⟨d, e, q⟩ := fin_of A.sim (k1.moveD A.st A.ph)
    exact hg m1 s1 H1 xs dxs d Q A.sim A.rel.1 e q
theorem se_callTy {T : String} {x : Str} {p : Pos} {r : List V → Hp → VK → Prop} {g : GL} (hc : CallR X (.type T) r) (hg : OkL X.K X.mg fr r g) (hgl : Gl X x) (hm : X.mg x = none) (hv : bootBuiltins x = some (.type T)) (ha : SA X W n (e :: es) gl) (hn : x ≠ "__name__" := by decide) (hdb : (x == ("__debug__" : Str)) = false := by decide)
    (he : starEach (e :: es) X.env = (false, eval e X.env) :: starEach es X.env := by rfl) (hpl : (backTo pos (starEach es X.env)).any (·.1) = false := by rfl) : SE X W fr (.Call (.Name x p) (e :: es) [] pos) (eFn g gl) :=
  PE.imp (pe_callTy hc hgl hm hv ha hn hdb he hpl) fun σ H Q ⟨m, env, s, S, E, k⟩ => by
    refine ⟨m, env, s, S, E, (KontG.bind k).imp fun xs H1 ⟨dxs, s1, m1, e1, A, k1⟩ => ?_⟩
    obtain ⟨d, e, q⟩ := fin_of A.sim (k1.moveD A.st A.ph)
    exact hg m1 s1 H1 xs dxs d Q A.sim A.rel.1 e q
end
end G

end
section
namespace G
open PySem PySem.Spec L2
variable [Tb]
/-! ### statements -/
inductive Fl where
  | nx | bk | ct | rt (d : D)
inductive SRes where
  | ok (f : Fl) (env : Env) (s : Sto)
  | err (x : Xn) (env : Env) (s : Sto)
  | bad
abbrev SM := Env → Sto → SRes
/-- an expression's value, in a statement -/
def Res.st {α : Type} (r : Res α) (env : Env) (f : α → Sto → SRes) : SRes := match r with
  | .ok a s => f a s
  | .err x s => .err x env s
  | .bad => .bad
@[simp] theorem Res.st_ok {α : Type} (a : α) (s : Sto) (env : Env) (f : α → Sto → SRes) : (Res.ok a s).st env f = f a s := rfl
@[simp] theorem Res.st_err {α : Type} (x : Xn) (s : Sto) (env : Env) (f : α → Sto → SRes) : (Res.err x s : Res α).st env f = .err x env s := rfl
@[simp] theorem Res.st_bad {α : Type} (env : Env) (f : α → Sto → SRes) : (Res.bad : Res α).st env f = .bad := rfl
/-- goes on where the first part ends by itself -/
def SRes.seq (r : SRes) (g : SM) : SRes := match r with
  | .ok .nx env s => g env s
  | .ok f env s => .ok f env s
  | .err x env s => .err x env s
  | .bad => .bad
@[simp] theorem SRes.seq_nx (env : Env) (s : Sto) (g : SM) : (SRes.ok .nx env s).seq g = g env s := rfl
@[simp] theorem SRes.seq_rt (d : D) (env : Env) (s : Sto) (g : SM) : (SRes.ok (.rt d) env s).seq g = .ok (.rt d) env s := rfl
@[simp] theorem SRes.seq_bk (env : Env) (s : Sto) (g : SM) : (SRes.ok .bk env s).seq g = .ok .bk env s := rfl
@[simp] theorem SRes.seq_ct (env : Env) (s : Sto) (g : SM) : (SRes.ok .ct env s).seq g = .ok .ct env s := rfl
@[simp] theorem SRes.seq_err (x : Xn) (env : Env) (s : Sto) (g : SM) : (SRes.err x env s).seq g = .err x env s := rfl
@[simp] theorem SRes.seq_bad (g : SM) : SRes.bad.seq g = .bad := rfl
def sSeq (g h : SM) : SM := fun env s => (g env s).seq h
def sNx : SM := fun env s => .ok .nx env s
def sBk : SM := fun env s => .ok .bk env s
def sCt : SM := fun env s => .ok .ct env s
def sRet (f : E) : SM := fun env s => (f env s).st env fun d s1 => .ok (.rt d) env s1
def sRetN : SM := fun env s => .ok (.rt .non) env s
def sDrop (f : E) : SM := fun env s => (f env s).st env fun _ s1 => .ok .nx env s1
def sIf (c : EB) (a b : SM) : SM := fun env s => (c env s).st env fun x s1 => if x = true then a env s1 else b env s1
def sSet (i : Nat) (f : E) : SM := fun env s => (f env s).st env fun d s1 => .ok .nx (env.set i (some d)) s1
def sBad : SM := fun _ _ => .bad
/-- a target's pattern -/
inductive Pat where
  | nm (i : Nat)
  | tp (l : List Pat)
mutual
def Pat.bind : Pat → D → Env → Option Env
  | .nm i, d, env => some (env.set i (some d))
  | .tp l, .tup ds, env => Pat.binds l ds env
  | .tp _, _, _ => none
def Pat.binds : List Pat → List D → Env → Option Env
  | [], [], env => some env
  | p :: l, d :: ds, env => (Pat.bind p d env).bind fun env' => Pat.binds l ds env'
  | _, _, _ => none
end
def sPat (p : Pat) (f : E) : SM := fun env s => (f env s).st env fun d s1 => match p.bind d env with
  | some env' => .ok .nx env' s1
  | none => .bad
mutual
def Pat.slots : Pat → List Nat
  | .nm i => [i]
  | .tp l => Pat.slotsL l
def Pat.slotsL : List Pat → List Nat
  | [] => []
  | p :: l => Pat.slots p ++ Pat.slotsL l
end
/-- turn by turn -/
def forL (p : Pat) (body : SM) : List D → SM
  | [], env, s => .ok .nx env s
  | d :: ds, env, s => match p.bind d env with
    | none => .bad
    | some env1 => match body env1 s with
      | .ok .nx env2 s2 => forL p body ds env2 s2
      | .ok .ct env2 s2 => forL p body ds env2 s2
      | .ok .bk env2 s2 => .ok .nx env2 s2
      | .ok (.rt d) env2 s2 => .ok (.rt d) env2 s2
      | .err x env2 s2 => .err x env2 s2
      | .bad => .bad
def sFor (p : Pat) (it : EL) (body : SM) : SM := fun env s => (it env s).st env fun ds s1 => forL p body ds env s1
/-- at most n turns -/
def whileN (c : EB) (body : SM) : Nat → SM
  | 0, _, _ => .bad
  | n + 1, env, s => (c env s).st env fun b s1 => if b = true then
      match body env s1 with
      | .ok .nx env2 s2 => whileN c body n env2 s2
      | .ok .ct env2 s2 => whileN c body n env2 s2
      | .ok .bk env2 s2 => .ok .nx env2 s2
      | .ok (.rt d) env2 s2 => .ok (.rt d) env2 s2
      | .err x env2 s2 => .err x env2 s2
      | .bad => .bad
    else .ok .nx env s1
def sWhile (c : EB) (body : SM) (fuel : Env → Nat) : SM := fun env s => whileN c body (fuel env) env s
/-- a comprehension -/
def lcL (p : Pat) (t : EB) (f : E) (env : Env) : List D → Sto → Res (List D)
  | [], s => .ok [] s
  | d :: ds, s => match p.bind d env with
    | none => .bad
    | some env1 => match t env1 s with
      | .ok true s1 => (match f env1 s1 with
        | .ok y s2 => (lcL p t f env ds s2).bind fun ys s3 => .ok (y :: ys) s3
        | _ => .bad)
      | .ok false s1 => lcL p t f env ds s1
      | _ => .bad
def wipeE (env : Env) : List Nat → Env
  | [] => env
  | v :: vs => (wipeE env vs).set v none
def bYes : EB := fun _ s => .ok true s
def eLc (own : List Nat) (p : Pat) (it : EL) (t : EB) (f : E) : E := fun env s => (it env s).bind fun ds s1 => (lcL p t f (wipeE env own) ds s1).bind fun ys s2 => .ok (.lst ys) s2

section
variable (K : PySem.W.Frag) (mg : Str → Option Value)
/-- fr: what is returned is new; cf: new changeable lists may be made -/
def KontS (W : WX) (fr cf : Bool) (m : WM) (H : Hp) (r : SRes) (D : Ends) : Prop := match r with
  | .ok fl env' s' => ∀ m' σ' H', Stp m H m' H' → (cf = false → m'.phi = m.phi) → Sim K mg m' s' H' → EnvR K mg m' H' env' σ' → (match fl with
    | .nx => D.nx σ' H'
    | .bk => D.bk σ' H'
    | .ct => D.ct σ' H'
    | .rt d => ∀ v, RD K mg fr H m' H' s' d v → D.rt v H')
  | .err x env' s' => ∀ c dx m' σ' H', Stp m H m' H' → (cf = false → m'.phi = m.phi) → Sim K mg m' s' H' → EnvR K mg m' H' env' σ' → ExR mg H' x c dx → W c dx σ' H'
  | .bad => False
def tS (W : WX) (fr cf : Bool) (g : SM) : TS := fun D σ H => ∃ m env s, Sim K mg m s H ∧ EnvR K mg m H env σ ∧ KontS K mg W fr cf m H (g env s) D
/-- what an iterator gives, at whatever heap behind -/
def ItOk (m : WM) (H : Hp) (J : It) (ds : List D) : Prop := ds.length ≤ sizeLine ∧ ∀ (i : Nat) m2 H2, Wk m H m2 H2 →
  (∀ d, ds[i]? = some d → J.go i H2 ∧ ∀ x H3, J.yld i H2 x H3 → Grw H2 H3 ∧ RV K mg m2 H3 d x) ∧ (i = ds.length → J.stop i H2)
def tI (W : WX) (g : EL) : TI := fun σ H R => ∃ m env s, Sim K mg m s H ∧ EnvR K mg m H env σ ∧ KontG K mg (fun m' H' _ ds J => ItOk K mg m' H' J ds) (fun c d H' => W c d σ H') m H (g env s) R
/-- unlike at the slots alone -/
def OutS (l : List Nat) (σ σ' : L2.St) : Prop := σ'.length = σ.length ∧ ∀ i : Nat, i ∉ l → σ'[i]? = σ[i]?
def tG (p : Pat) : TG := fun v σ H Q => ∃ m d env env', RV K mg m H d v ∧ EnvR K mg m H env σ ∧ p.bind d env = some env' ∧ ∀ σ', EnvR K mg m H env' σ' → OutS p.slots σ σ' → Q σ' H
def tGs (l : List Pat) : TGs := fun vs σ H Q => ∃ m ds env env', RVs K mg m H ds vs ∧ EnvR K mg m H env σ ∧ Pat.binds l ds env = some env' ∧ ∀ σ', EnvR K mg m H env' σ' → OutS (Pat.slotsL l) σ σ' → Q σ' H
end
abbrev SS (X : Cx) (W : WX) (fr cf : Bool) (e : Stmt) (g : SM) : Prop := PS X e (tS X.K X.mg W fr cf g)
abbrev SSs (X : Cx) (W : WX) (fr cf : Bool) (es : List Stmt) (g : SM) : Prop := PSs X es (tS X.K X.mg W fr cf g)
abbrev SI (X : Cx) (W : WX) (tg it : Expr) (g : EL) : Prop := PI X tg it (tI X.K X.mg W g)
abbrev SG (X : Cx) (e : Expr) (p : Pat) : Prop := PG X e (tG X.K X.mg p)
theorem PI.imp {X : Cx} {tg it : Expr} {t t' : TI} (h : PI X tg it t) (i : ∀ σ H R, t' σ H R → t σ H R) : PI X tg it t' := ⟨fun pins s σ H R I q => h.run pins s σ H R I (i σ H R q)⟩
theorem PG.imp {X : Cx} {e : Expr} {t t' : TG} (h : PG X e t) (i : ∀ v σ H Q, t' v σ H Q → t v σ H Q) : PG X e t' := ⟨fun pins s σ H v u Q I r q => h.run pins s σ H v u Q I r (i v σ H Q q)⟩
theorem PGs.imp {X : Cx} {e : List Expr} {t t' : TGs} (h : PGs X e t) (i : ∀ v σ H Q, t' v σ H Q → t v σ H Q) : PGs X e t' := ⟨fun pins s σ H v u Q I r q => h.run pins s σ H v u Q I r (i v σ H Q q)⟩
section
variable {K : PySem.W.Frag} {mg : Str → Option Value} {W : WX} {fr cf : Bool} {m m1 : WM} {H H1 : Hp} {σ : L2.St} {env : Env} {s : Sto}
theorem KontS.move {r : SRes} {D : Ends} (h : KontS K mg W fr cf m H r D) (st : Stp m H m1 H1) (ph : cf = false → m1.phi = m.phi) : KontS K mg W fr cf m1 H1 r D := by
  cases r with
  | ok fl env' s' =>
    intro m' σ' H' x1 x2 x3 x4
    have q := h m' σ' H' (st.trans x1) (fun e => (x2 e).trans (ph e)) x3 x4
    cases fl with
    | rt d => exact fun v r => q v ⟨r.1, fun e l a e1 e2 => ⟨st.dom _ (r.2 e l a e1 e2).1, (r.2 e l a e1 e2).2⟩⟩
    | nx => exact q
    | bk => exact q
    | ct => exact q
  | err x env' s' => exact fun c dx m' σ' H' x1 x2 x3 x4 x5 => h c dx m' σ' H' (st.trans x1) (fun e => (x2 e).trans (ph e)) x3 x4 x5
  | bad => exact h
theorem KontS.nx {D : Ends} (h : KontS K mg W fr cf m H (.ok .nx env s) D) (S : Sim K mg m s H) (E : EnvR K mg m H env σ) : D.nx σ H := h m σ H Stp.refl (fun _ => rfl) S E
/-- an expression ahead -/
theorem KontS.st {α β : Type} {R : WM → Hp → Sto → α → β → Prop} {r : Res α} {k : α → Sto → SRes} {D : Ends} (h : KontS K mg W fr cf m H (r.st env k) D) (E : EnvR K mg m H env σ) :
    KontG K mg R (fun c d H' => W c d σ H') m H r fun b H1 => ∃ a s1 m1, r = .ok a s1 ∧ After K mg R m H a s1 b m1 H1 ∧ EnvR K mg m1 H1 env σ ∧ KontS K mg W fr cf m1 H1 (k a s1) D := by
  cases r with
  | ok a s' => exact fun b m' H' x1 x2 x3 x4 => ⟨a, s', m', rfl, ⟨x1, x2, x3, x4⟩, E.mono x1.wk, KontS.move h x1 fun _ => x2⟩
  | err x s' => exact fun c dx m' H' x1 x2 x3 x4 => h c dx m' σ H' x1 (fun _ => x2) x3 (E.mono x1.wk) x4
  | bad => exact h
end
section
variable {X : Cx} {W : WX} {fr cf fr2 fr3 : Bool} {e a b c : Expr} {fa fb fc : E} {ga gb : EB} {pos : Pos} {st : Stmt} {sts rest body : List Stmt} {g h : SM}
theorem ss_cf (h : SS X W fr false st g) : SS X W fr cf st g := PS.imp h fun D σ H ⟨m, env, s, S, E, k⟩ => ⟨m, env, s, S, E, by
  revert k
  cases (g env s) with
  | ok fl env' s' => exact fun k m' σ' H' x1 x2 x3 x4 => k m' σ' H' x1 (fun _ => x2 rfl) x3 x4
  | err x env' s' => exact fun k c dx m' σ' H' x1 x2 x3 x4 x5 => k c dx m' σ' H' x1 (fun _ => x2 rfl) x3 x4 x5
  | bad => exact fun k => k⟩
theorem sss_nil : SSs X W fr cf [] sNx := PSs.imp pss_nil fun D σ H ⟨m, env, s, S, E, k⟩ => k.nx S E
theorem sss_cons (h1 : SS X W fr cf st g) (h2 : SSs X W fr cf rest h) : SSs X W fr cf (st :: rest) (sSeq g h) := PSs.imp (pss_cons h1 h2) fun D σ H ⟨m, env, s, S, E, k⟩ => by
  refine ⟨m, env, s, S, E, ?_⟩
  have k' : KontS X.K X.mg W fr cf m H ((g env s).seq h) D := k
  revert k'
  cases (g env s) with
  | ok fl env' s' =>
    cases fl with
    | nx => exact fun k m' σ' H' x1 x2 x3 x4 => ⟨m', env', s', x3, x4, k.move x1 x2⟩
    | rt d => exact fun k => k
    | bk => exact fun k => k
    | ct => exact fun k => k
  | err x env' s' => exact fun k => k
  | bad => exact fun k => k
theorem sss_one (h1 : SS X W fr cf st g) : SSs X W fr cf [st] g := pss_one h1
theorem ss_pass : SS X W fr cf (.Pass pos) sNx := PS.imp ps_pass fun D σ H ⟨m, env, s, S, E, k⟩ => k.nx S E
theorem ss_break : SS X W fr cf (.Break pos) sBk := PS.imp ps_break fun D σ H ⟨m, env, s, S, E, k⟩ => k m σ H Stp.refl (fun _ => rfl) S E
theorem ss_continue : SS X W fr cf (.Continue pos) sCt := PS.imp ps_continue fun D σ H ⟨m, env, s, S, E, k⟩ => k m σ H Stp.refl (fun _ => rfl) S E
theorem ss_ret (he : SE X W fr e fa) : SS X W fr cf (.Return (some e) pos) (sRet fa) := PS.imp (ps_ret he) fun D σ H ⟨m, env, s, S, E, k⟩ => by
  refine ⟨m, env, s, S, E, (KontS.st k E).imp fun v H1 ⟨d, s1, m1, e1, A, E1, k1⟩ => ?_⟩
  have k' : KontS X.K X.mg W fr cf m H ((fa env s).st env fun d s1 => .ok (.rt d) env s1) D := k
  rw [e1] at k'
  exact k' m1 σ H1 A.st (fun _ => A.ph) A.sim E1 v A.rel
theorem ss_retN : SS X W fr cf (.Return none pos) sRetN := PS.imp ps_retN fun D σ H ⟨m, env, s, S, E, k⟩ => k m σ H Stp.refl (fun _ => rfl) S E .non ⟨RV.non, fun _ _ _ z => nomatch z⟩
theorem ss_drop (he : SE X W fr2 e fa) (hs : swapsWith e none pos.line X.env = pure false := by rfl) : SS X W fr cf (.Expr e pos) (sDrop fa) := PS.imp (ps_expr (seF he) hs) fun D σ H ⟨m, env, s, S, E, k⟩ => by
  refine ⟨m, env, s, S, E, (KontS.st k E).imp fun v H1 ⟨d, s1, m1, e1, A, E1, k1⟩ => k1.nx A.sim E1⟩
theorem ss_if {sa sb : List Stmt} (hc : ST X W c ga) (ha : SSs X W fr cf sa g) (hb : SSs X W fr cf sb h) : SS X W fr cf (.If c sa sb pos) (sIf ga g h) := PS.imp (ps_if hc ha hb) fun D σ H ⟨m, env, s, S, E, k⟩ => by
  refine ⟨m, env, s, S, E, (KontS.st k E).imp fun x H1 ⟨d, s1, m1, e1, A, E1, k1⟩ => ?_⟩
  have er := A.rel
  subst er
  cases d with
  | true => exact ⟨m1, env, s1, A.sim, E1, k1⟩
  | false => exact ⟨m1, env, s1, A.sim, E1, k1⟩
theorem ss_set {i : Nat} {x : Str} {pos' : Pos} (hN : X.N.Nodup) (hi : X.N[i]? = some x) (hx : Loc X.env.scope x) (he : SE X W fr2 e fa) (hs : swapsWith e (some (.Name x pos')) pos.line X.env = pure false := by rfl) (hf : X.fn x = true ∨ X.env.scope.names.lookup x = some .local := by first | exact .inl rfl | exact .inr rfl) :
    SS X W fr cf (.Assign [.Name x pos'] e pos) (sSet i fa) := PS.imp (ps_set hN hi hx (seF he) hs hf) fun D σ H ⟨m, env, s, S, E, k⟩ => by
  refine ⟨m, env, s, S, E, (KontS.st k E).imp fun x H1 ⟨d, s1, m1, e1, A, E1, k1⟩ => ?_⟩
  exact k1.nx A.sim (E1.set i A.rel.1)
/-! targets -/
theorem sg_name {i : Nat} {x : Str} (hN : X.N.Nodup) (hi : X.N[i]? = some x) (hx : Loc X.env.scope x) (hf : X.fn x = true ∨ X.env.scope.names.lookup x = some .local := by first | exact .inl rfl | exact .inr rfl) : SG X (.Name x pos) (.nm i) :=
  PG.imp (pg_name hN hi hx hf) fun v σ H Q ⟨m, d, env, env', r, E, e, k⟩ => by
    have e' : some (env.set i (some d)) = some env' := by rw [← e]; unfold Pat.bind; rfl
    cases e'
    refine k _ (E.set i r) ⟨by simp, fun j hj => ?_⟩
    unfold Pat.slots at hj
    rw [List.getElem?_set_ne (by simpa [eq_comm] using hj)]
theorem sgs_nil : PGs X [] (tGs X.K X.mg []) := PGs.imp pgs_nil fun vs σ H Q ⟨m, ds, env, env', r, E, e, k⟩ => by
  cases ds with
  | nil =>
    have e' : some env = some env' := by rw [← e]; unfold Pat.binds; rfl
    cases e'
    exact ⟨RVs.nil.mp r, k _ E ⟨rfl, fun _ _ => rfl⟩⟩
  | cons d ds => unfold Pat.binds at e; cases e
theorem sgs_cons {es : List Expr} {p : Pat} {l : List Pat} (h1 : SG X e p) (h2 : PGs X es (tGs X.K X.mg l)) (hs : (assignEach (e :: es) X.env).map (·.2) = assign e X.env :: (assignEach es X.env).map (·.2) := by rfl) : PGs X (e :: es) (tGs X.K X.mg (p :: l)) :=
  PGs.imp (pgs_cons h1 h2 hs) fun vs σ H Q ⟨m, ds, env, env', r, E, e, k⟩ => by
    cases ds with
    | nil => unfold Pat.binds at e; cases e
    | cons d ds =>
      obtain ⟨v, w, e1, r1, r2⟩ := RVs.cons.mp r
      have e' : ((Pat.bind p d env).bind fun env' => Pat.binds l ds env') = some env' := by rw [← e]; conv => rhs; unfold Pat.binds
      cases q : Pat.bind p d env with
      | none => rw [q] at e'; cases e'
      | some env1 =>
        rw [q] at e'
        refine ⟨v, w, e1, m, d, env, env1, r1, E, q, fun σ1 E1 o1 => ⟨m, ds, env1, env', r2, E1, e', fun σ2 E2 o2 => k σ2 E2 ⟨o2.1.trans o1.1, fun i hi => ?_⟩⟩⟩
        unfold Pat.slotsL at hi
        rw [List.mem_append, not_or] at hi
        exact (o2.2 i hi.2).trans (o1.2 i hi.1)
theorem sg_tup {es : List Expr} {k : Nat} {l : List Pat} {n : Nat} (hc : X.calm = true) (h : PGs X es (tGs X.K X.mg l)) (hn : (assignEach es X.env).length = n := by rfl) (hl : l.length = n := by rfl) (hst : (assignEach es X.env).findIdx? (·.1) = none := by rfl) : SG X (.Tuple es k pos) (.tp l) :=
  PG.imp (pg_tup hc h hn hst) fun v σ H Q ⟨m, d, env, env', r, E, e, k⟩ => by
    cases d with
    | tup ds =>
      unfold RV at r
      obtain ⟨a, vs, e1, h1, hz, r1⟩ := r
      have e' : Pat.binds l ds env = some env' := by rw [← e]; conv => rhs; unfold Pat.bind
      have len : ∀ (l : List Pat) (ds : List D) (env env' : Env), Pat.binds l ds env = some env' → ds.length = l.length := by
        intro l
        induction l with
        | nil =>
          intro ds env env' h
          cases ds with
          | nil => rfl
          | cons _ _ => unfold Pat.binds at h; cases h
        | cons p l ih =>
          intro ds env env' h
          cases ds with
          | nil => unfold Pat.binds at h; cases h
          | cons d ds =>
            unfold Pat.binds at h
            cases q : Pat.bind p d env with
            | none => rw [q] at h; cases h
            | some env1 =>
              rw [q] at h
              rw [List.length_cons, List.length_cons, ih ds env1 env' h]
      exact ⟨a, vs, e1, SqT.of h1, by rw [r1.length, len _ _ _ _ e', hl], m, ds, env, env', r1, E, e', fun σ' E' o => k σ' E' (by unfold Pat.slots; exact o)⟩
    | _ => unfold Pat.bind at e; cases e
theorem ss_asg {tg : Expr} {p : Pat} (he : SE X W fr2 e fa) (hg : SG X tg p) (hs : swapsWithSole [tg] e pos.line X.env = pure false := by rfl) (hw : swappedStores [tg] e X.env = pure none := by rfl) (h1 : (assignEach [tg] X.env).map (·.2) = [assign tg X.env] := by rfl) :
    SS X W fr cf (.Assign [tg] e pos) (sPat p fa) := PS.imp (ps_asg (seF he) hg hs hw h1) fun D σ H ⟨m, env, s, S, E, k⟩ => by
  refine ⟨m, env, s, S, E, (KontS.st k E).imp fun x H1 ⟨d, s1, m1, e1, A, E1, k1⟩ => ?_⟩
  cases q : p.bind d env with
  | none =>
    rw [q] at k1
    exact k1.elim
  | some env' =>
    rw [q] at k1
    exact ⟨m1, d, env, env', A.rel.1, E1, q, fun σ' E' _ => k1.nx A.sim E'⟩
end
end G

end
section
namespace G
open PySem PySem.Spec L2
variable [Tb]
section
variable {X : Cx} {W : WX} {fr cf fr2 fr3 : Bool} {e a b c tg iter elt : Expr} {fa fb fc : E} {ga gb : EB} {gi : EL} {p : Pat} {pos : Pos} {st : Stmt} {sts rest body : List Stmt} {g h : SM}
theorem ss_while {fuel : Env → Nat} (hp : PassesOwn (model X.prog X.w) X.A X.env X.xe) (hc : ST X W c ga) (hb : SSs X W fr cf body g) : SS X W fr cf (.While c body [] pos) (sWhile ga g fuel) := PS.imp (ps_while hp hc hb) fun D σ H ⟨m, env, s, S, E, k⟩ => by
  refine ⟨fun n σ' H' => ∃ m2 env2 s2, Sim X.K X.mg m2 s2 H' ∧ EnvR X.K X.mg m2 H' env2 σ' ∧ KontS X.K X.mg W fr cf m2 H' (whileN ga g n env2 s2) D, ⟨fuel env, m, env, s, S, E, k⟩, ?_⟩
  rintro n σ1 H1 ⟨m2, env2, s2, S2, E2, k2⟩
  cases n with
  | zero => exact k2.elim
  | succ n =>
    unfold whileN at k2
    refine ⟨m2, env2, s2, S2, E2, (KontS.st k2 E2).imp fun x H3 ⟨d, s3, m3, e3, A, E3, k3⟩ => ?_⟩
    have er := A.rel
    subst er
    cases d with
    | false => exact k3.nx A.sim E3
    | true =>
      rw [if_pos rfl]
      refine ⟨fun σ' H' => ∃ m4 env4 s4, Sim X.K X.mg m4 s4 H' ∧ EnvR X.K X.mg m4 H' env4 σ' ∧ KontS X.K X.mg W fr cf m4 H' (whileN ga g n env4 s4) D, fun σ' H' h => ⟨n, Nat.lt_succ_self n, h⟩, m3, env2, s3, A.sim, E3, ?_⟩
      rw [if_pos rfl] at k3
      revert k3
      cases (g env2 s3) with
      | ok fl env4 s4 =>
        cases fl with
        | nx => exact fun k m' σ' H' x1 x2 x3 x4 => ⟨m', env4, s4, x3, x4, k.move x1 x2⟩
        | ct => exact fun k m' σ' H' x1 x2 x3 x4 => ⟨m', env4, s4, x3, x4, k.move x1 x2⟩
        | bk => exact fun k => k
        | rt d => exact fun k => k
      | err x env4 s4 => exact fun k => k
      | bad => exact fun k => k
theorem ss_for (hp : PassesOwn (model X.prog X.w) X.A X.env X.xe) (hc : X.calm = true) (hi : SI X W tg iter gi) (hg : SG X tg p) (hb : SSs X W fr cf body g) (hs : ∀ x, foldedSetIterable iter X.env x = pure x := by intro _; rfl) : SS X W fr cf (.For tg iter body [] pos) (sFor p gi g) :=
  PS.imp (ps_for hp hc hi hg hb hs) fun D σ H ⟨m, env, s, S, E, k⟩ => by
    refine ⟨m, env, s, S, E, (KontS.st k E).imp fun J H1 ⟨ds, s1, m1, e1, A, E1, k1⟩ => ?_⟩
    obtain ⟨hz, it⟩ := A.rel
    refine ⟨fun i n σ' H' => ∃ m2 env2 s2, Stp m1 H1 m2 H' ∧ Sim X.K X.mg m2 s2 H' ∧ EnvR X.K X.mg m2 H' env2 σ' ∧ n = ds.length - i ∧ i ≤ ds.length ∧ KontS X.K X.mg W fr cf m2 H' (forL p g (ds.drop i) env2 s2) D, ⟨_, m1, env, s1, Stp.refl, A.sim, E1, rfl, Nat.zero_le _, k1⟩, ?_⟩
    rintro i n σ2 H2 ⟨m2, env2, s2, st2, S2, E2, rfl, hle, k2⟩
    obtain ⟨i1, i2⟩ := it i m2 H2 st2.wk
    cases q : ds[i]? with
    | none =>
      refine .inl ⟨i2 (Nat.le_antisymm hle (List.getElem?_eq_none_iff.mp q)), ?_⟩
      rw [List.drop_eq_nil_of_le (List.getElem?_eq_none_iff.mp q)] at k2
      exact k2.nx S2 E2
    | some d =>
      obtain ⟨hlt, hd⟩ := List.getElem?_eq_some_iff.mp q
      obtain ⟨go, yl⟩ := i1 d q
      refine .inr ⟨go, fun σ' H' => ∃ m4 env4 s4, Stp m1 H1 m4 H' ∧ Sim X.K X.mg m4 s4 H' ∧ EnvR X.K X.mg m4 H' env4 σ' ∧ KontS X.K X.mg W fr cf m4 H' (forL p g (ds.drop (i + 1)) env4 s4) D,
        fun σ' H' ⟨m4, env4, s4, y1, y2, y3, y4⟩ => ⟨ds.length - (i + 1), by omega, m4, env4, s4, y1, y2, y3, rfl, hlt, y4⟩, fun x H3 hy => ?_⟩
      obtain ⟨gr, rx⟩ := yl x H3 hy
      rw [List.drop_eq_getElem_cons hlt, hd] at k2
      have k2' := k2.move (Grw.stp gr) fun _ => rfl
      unfold forL at k2'
      cases qb : p.bind d env2 with
      | none =>
        rw [qb] at k2'
        exact k2'.elim
      | some env3 =>
        rw [qb] at k2'
        refine ⟨m2, d, env2, env3, rx, E2.mono (Grw.stp gr).wk, qb, fun σ3 E3 _ => ⟨m2, env3, s2, S2.grw gr, E3, ?_⟩⟩
        have st3 : Stp m1 H1 m2 H3 := st2.trans (Grw.stp gr)
        simp only at k2'
        revert k2'
        cases (g env3 s2) with
        | ok fl env4 s4 =>
          cases fl with
          | nx => exact fun k m' σ' H' x1 x2 x3 x4 => ⟨m', env4, s4, st3.trans x1, x3, x4, k.move x1 x2⟩
          | ct => exact fun k m' σ' H' x1 x2 x3 x4 => ⟨m', env4, s4, st3.trans x1, x3, x4, k.move x1 x2⟩
          | bk => exact fun k => k
          | rt d => exact fun k => k
        | err x env4 s4 => exact fun k => k
        | bad => exact fun k => k

/-! comprehensions -/
theorem wipeE_env {K : PySem.W.Frag} {mg : Str → Option Value} {m : WM} {H : Hp} {env : Env} {σ : L2.St} (E : EnvR K mg m H env σ) : ∀ vs : List Nat, EnvR K mg m H (wipeE env vs) (wipe σ vs)
  | [] => E
  | v :: vs => by
    have E' := wipeE_env E vs
    unfold wipeE wipe
    refine ⟨by simp [E'.1], fun j d e => ?_⟩
    by_cases hj : v = j
    · subst hj
      rw [List.getElem?_set] at e
      simp only [if_true] at e
      split at e <;> cases e
    · rw [List.getElem?_set_ne hj] at e ⊢
      exact E'.2 j d e
theorem wipe_idem {vs : List Nat} {σ σ' : L2.St} (o : OutS vs (wipe σ vs) σ') : wipe σ' vs = wipe σ vs := by
  have key : ∀ (ws : List Nat) (i : Nat), i ∈ ws → ∀ σ : L2.St, (wipe σ ws)[i]? = if i < σ.length then some none else none := by
    intro ws
    induction ws with
    | nil => intro i h; cases h
    | cons w ws ih =>
      intro i hi σ
      unfold wipe
      by_cases hw : w = i
      · subst hw
        rw [List.getElem?_set]
        simp [wipe_length]
      · rw [List.getElem?_set_ne hw]
        rcases List.mem_cons.mp hi with e | hi
        · exact absurd e.symm hw
        · exact ih i hi σ
  apply List.ext_getElem?
  intro i
  by_cases hi : i ∈ vs
  · rw [key vs i hi, key vs i hi, o.1, wipe_length]
  · rw [wipe_out hi, o.2 i hi]
theorem Stp.upNew {m m' : WM} {H H' : Hp} {a : Addr} {o : HO} (x : Stp m H m' H') (hn : H a = none) : Stp m H m' (upd H' a o) := by
  refine ⟨x.phi, x.psi, x.av, fun b xs h => ?_, fun b xs h n => ?_, fun b o' u h => ?_, fun b h => ?_⟩
  · rw [upd_ne (ne_of_none h hn)]; exact x.tup b xs h
  · rw [upd_ne (ne_of_none h hn)]; exact x.lst b xs h n
  · rw [upd_ne (ne_of_none h hn)]; exact x.frz b o' u h
  · by_cases hb : b = a
    · subst hb; exact Fr.of hn
    · rw [Fr.up hb] at h; exact x.dom b h
/-- the av field is nothing to a step -/
theorem Stp.avs {m m' : WM} {H H' : Hp} (x : Stp m H m' H') (l : List Addr) : Stp { m with av := l } H { m' with av := l } H' := ⟨x.phi, x.psi, rfl, x.tup, x.lst, x.frz, x.dom⟩
theorem Sim.upav {K : PySem.W.Frag} {mg : Str → Option Value} {m : WM} {s : Sto} {H : Hp} {a : Addr} {xs ys : List V} (S : Sim K mg m s H) (ha : a ∈ m.av) (h : H a = some (.lst xs)) : Sim K mg m s (upd H a (.lst ys)) ∧ Wk m H m (upd H a (.lst ys)) := by
  have w : Wk m H m (upd H a (.lst ys)) := by
    refine ⟨⟨[], by simp⟩, ⟨[], by simp⟩, fun b hb => .inl hb, fun b zs hb => ?_, fun b zs hb n1 n2 => ?_, fun b o u hb => ?_⟩
    · rw [upd_ne (ne_of hb h (by intro z; cases z))]; exact hb
    · rw [upd_ne (fun z => n2 (by rw [z]; exact ha))]; exact hb
    · rw [upd_ne (ne_of hb h (by intro z; cases z))]; exact hb
  refine ⟨⟨S.cl, S.nd, fun n b zs e1 e2 => ?_, fun b hb => ⟨(S.al b hb).1, ?_⟩, S.ol, fun n p o e1 e2 => ?_, S.on, tabs_up S.tb h⟩, w⟩
  · obtain ⟨h0, hz, vs, h1, h2⟩ := S.ce n b zs e1 e2
    have hb : b ≠ a := fun z => (S.al a ha).1 (by rw [← z]; exact List.mem_of_getElem? e1)
    exact ⟨h0, hz, vs, by rw [upd_ne hb]; exact h1, RVs.mono w _ _ h2⟩
  · by_cases hb' : b = a
    · rw [hb']; exact Fr.lstSame
    · rw [Fr.up hb']; exact (S.al b hb).2
  · exact (S.ob n p o e1 e2).keep w fun u h1 r => by rw [upd_ne (ne_of h1 h (fun z => r.lst z))]; exact h1
theorem lcL_cons {t : EB} {f : E} {env : Env} {d : D} {ds : List D} {s : Sto} : lcL p t f env (d :: ds) s = match p.bind d env with
    | none => .bad
    | some env1 => match t env1 s with
      | .ok true s1 => (match f env1 s1 with
        | .ok y s2 => (lcL p t f env ds s2).bind fun ys s3 => .ok (y :: ys) s3
        | _ => .bad)
      | .ok false s1 => lcL p t f env ds s1
      | _ => .bad := by rw [lcL] <;> rfl
abbrev W0 : WX := fun _ _ _ _ => False
theorem lc_imp {K : PySem.W.Frag} {mg : Str → Option Value} {own : List Nat} {gt : EB} (hp : ∀ i ∈ p.slots, i ∈ own) (σ : L2.St) (H : Hp) (Q : VK) (h0 : tE K mg W true (eLc own p gi gt fa) σ H Q) :
    tLc (tI K mg W gi) (tG K mg p) (tT K mg W0 gt) (tE K mg W0 false fa) own σ H Q := by
  obtain ⟨m, env, s, S, E, k⟩ := h0
  refine ⟨m, env, s, S, E, (KontG.bind k).imp fun J H1 ⟨ds, s1, m1, e1, A, k1⟩ => ?_⟩
  obtain ⟨hz, it⟩ := A.rel
  have k1' := k1.moveD A.st A.ph
  have E1 := E.mono A.st.wk
  intro Dd hDd
  -- the state while the list is made
  refine ⟨fun i n H' => ∃ m2 s2 acc ads, Stp m1 H1 { m2 with av := m1.av } H' ∧ m2.phi = m1.phi ∧ m2.av = Dd :: m1.av ∧ Sim K mg m2 s2 H' ∧ H' Dd = some (.lst acc) ∧ RVs K mg m2 H' ads acc ∧ ads.length ≤ i ∧ n = ds.length - i ∧ i ≤ ds.length ∧
    lcL p gt fa (wipeE env (own)) ds s1 = (lcL p gt fa (wipeE env (own)) (ds.drop i) s2).bind fun ys s3 => .ok (ads ++ ys) s3, ?_, ?_⟩
  · have w : Wk m1 H1 { m1 with av := Dd :: m1.av } (upd H1 Dd (.lst [])) := by
      have g : Grw H1 (upd H1 Dd (.lst [])) := Grw.new hDd
      refine ⟨⟨[], by simp⟩, ⟨[], by simp⟩, fun b hb => ?_, fun b zs hb => g _ _ hb, fun b zs hb _ _ => g _ _ hb, fun b o u hb => g _ _ hb⟩
      rcases List.mem_cons.mp hb with e | hb
      · exact .inr (by rw [e]; exact Fr.of hDd)
      · exact .inl hb
    have g : Grw H1 (upd H1 Dd (.lst [])) := Grw.new hDd
    refine ⟨_, { m1 with av := Dd :: m1.av }, s1, [], [], Grw.stp g, rfl, rfl, A.sim.avNew g hDd ⟨_, upd_same⟩, upd_same, RVs.nil.mpr rfl, Nat.le_refl _, rfl, Nat.zero_le _, ?_⟩
    rw [List.drop_zero]
    cases lcL p gt fa (wipeE env (own)) ds s1 <;> rfl
  · rintro i n H2 ⟨m2, s2, acc, ads, st2, ph2, av2, S2, hD2, rD2, hl2, rfl, hi2, eq2⟩
    have wk2 : Wk m1 H1 m2 H2 := by
      refine ⟨⟨[], by simp [ph2]⟩, let ⟨l, e, _⟩ := st2.psi; ⟨l, e⟩, fun b hb => ?_, st2.tup, fun b zs hb n _ => st2.lst b zs hb n, st2.frz⟩
      rw [av2] at hb
      rcases List.mem_cons.mp hb with e | hb
      · exact .inr (by rw [e]; exact Fr.of hDd)
      · exact .inl hb
    obtain ⟨i1, i2⟩ := it i m2 H2 wk2
    have kk : KontG K mg (RD K mg true H1) (fun c d H' => W c d σ H') m1 H1 (((lcL p gt fa (wipeE env (own)) (ds.drop i) s2).bind fun ys s3 => .ok (ads ++ ys) s3).bind fun ys s3 => .ok (.lst ys) s3) Q := by
      rw [← eq2]
      exact k1'
    cases q : ds[i]? with
    | none =>
      refine .inl ⟨i2 (Nat.le_antisymm hi2 (List.getElem?_eq_none_iff.mp q)), ?_⟩
      rw [List.drop_eq_nil_of_le (List.getElem?_eq_none_iff.mp q)] at kk
      have kk' : KontG K mg (RD K mg true H1) (fun c d H' => W c d σ H') m1 H1 (.ok (.lst ads) s2) Q := by
        have e : ads ++ ([] : List D) = ads := List.append_nil _
        rw [← e]
        exact kk
      have wb : Wk m2 H2 { m2 with av := m1.av } H2 := by
        refine ⟨⟨[], by simp⟩, ⟨[], by simp⟩, fun b hb => .inl (by rw [av2]; exact List.mem_cons_of_mem _ hb), fun _ _ h => h, fun _ _ h _ _ => h, fun _ _ _ h => h⟩
      refine kk' (.ref Dd) { m2 with av := m1.av } H2 st2 ph2 ⟨S2.cl, S2.nd, fun n b zs e1 e2 => ?_, fun b hb => S2.al b (by rw [av2]; exact List.mem_cons_of_mem _ hb), S2.ol, fun n p o e1 e2 => ?_, S2.on, S2.tb⟩ ⟨?_, fun _ l a e1 e2 => by cases e1; cases e2; exact ⟨Fr.of hDd, by rw [← av2]; exact S2, acc, hD2, by rw [← av2]; exact rD2⟩⟩
      · obtain ⟨h0, hz', vs, h1, h2⟩ := S2.ce n b zs e1 e2
        exact ⟨h0, hz', vs, h1, RVs.mono wb _ _ h2⟩
      · exact (S2.ob n p o e1 e2).keep wb fun u h _ => h
      · unfold RV
        refine ⟨Dd, acc, rfl, hD2, by rw [ph2]; exact A.sim.noPhi hDd, A.sim.noAv hDd, by omega, RVs.mono wb _ _ rD2⟩
    | some d =>
      obtain ⟨hlt, hd⟩ := List.getElem?_eq_some_iff.mp q
      obtain ⟨go, yl⟩ := i1 d q
      refine .inr ⟨go, fun H' => ∃ m4 s4 acc4 ads4, Stp m1 H1 { m4 with av := m1.av } H' ∧ m4.phi = m1.phi ∧ m4.av = Dd :: m1.av ∧ Sim K mg m4 s4 H' ∧ H' Dd = some (.lst acc4) ∧ RVs K mg m4 H' ads4 acc4 ∧ ads4.length ≤ i + 1 ∧
        lcL p gt fa (wipeE env (own)) ds s1 = (lcL p gt fa (wipeE env (own)) (ds.drop (i + 1)) s4).bind fun ys s3 => .ok (ads4 ++ ys) s3,
        fun H' ⟨m4, s4, acc4, ads4, y1, y2, y3, y4, y5, y6, y7, y8⟩ => ⟨ds.length - (i + 1), by omega, m4, s4, acc4, ads4, y1, y2, y3, y4, y5, y6, y7, rfl, hlt, y8⟩, fun x H3 hy => ?_⟩
      obtain ⟨gr, rx⟩ := yl x H3 hy
      rw [List.drop_eq_getElem_cons hlt, hd] at eq2 kk
      rw [lcL_cons] at eq2 kk
      have E3 : EnvR K mg m2 H3 (wipeE env (own)) (wipe σ (own)) := ((wipeE_env (E1.mono wk2) _).mono (Grw.stp gr).wk)
      cases qb : p.bind d (wipeE env (own)) with
      | none =>
        rw [qb] at kk
        exact kk.elim
      | some env3 =>
        rw [qb] at kk eq2
        simp only at kk eq2
        refine ⟨m2, d, _, env3, rx, E3, qb, fun σ3 E4 o3 => ⟨wipe_idem ⟨o3.1, fun j hj => o3.2 j fun z => hj (hp j z)⟩, ?_⟩⟩
        have S3 := S2.grw gr
        refine ⟨m2, env3, s2, S3, E4, ?_⟩
        cases qt : gt env3 s2 with
        | bad =>
          rw [qt] at kk
          exact kk.elim
        | err x s3 =>
          rw [qt] at kk
          exact kk.elim
        | ok bb s3 =>
          rw [qt] at kk eq2
          intro bb' m3 H4 t1 t2 t3 t4
          subst t4
          have st4 : Stp m1 H1 { m3 with av := m1.av } H4 := (st2.trans (Grw.stp gr)).trans (t1.avs m1.av)
          have ph4 : m3.phi = m1.phi := t2.trans ph2
          have av4 : m3.av = Dd :: m1.av := t1.av.trans av2
          have hD4 : H4 Dd = some (.lst acc) := t1.lst Dd acc (gr _ _ hD2) (by rw [ph2]; exact A.sim.noPhi hDd)
          have rD4 : RVs K mg m3 H4 ads acc := RVs.mono t1.wk _ _ (rD2.grw gr)
          cases bb with
          | false =>
            rw [if_neg (by decide)]
            exact ⟨m3, s3, acc, ads, st4, ph4, av4, t3, hD4, rD4, by omega, eq2⟩
          | true =>
            rw [if_pos rfl]
            refine ⟨m3, env3, s3, t3, E4.mono t1.wk, ?_⟩
            simp only at kk eq2
            cases qf : fa env3 s3 with
            | bad =>
              rw [qf] at kk
              exact kk.elim
            | err x s4 =>
              rw [qf] at kk
              exact kk.elim
            | ok y s4 =>
              rw [qf] at kk eq2
              simp only at kk eq2
              intro v m5 H5 u1 u2 u3 u4
              have hD5 : H5 Dd = some (.lst acc) := u1.lst Dd acc hD4 (by rw [ph4]; exact A.sim.noPhi hDd)
              have ph5 : m5.phi = m1.phi := u2.trans ph4
              have av5 : m5.av = Dd :: m1.av := u1.av.trans av4
              obtain ⟨S5, w5⟩ := u3.upav (ys := acc ++ [v]) (a := Dd) (by rw [av5]; exact List.mem_cons_self) hD5
              refine ⟨acc, hD5, ?_, m5, s4, acc ++ [v], ads ++ [y], (st4.trans (u1.avs m1.av)).upNew hDd, ph5, av5, S5, upd_same, RVs.mono w5 _ _ ((RVs.mono u1.wk _ _ rD4).append (RVs.mk u4.1 (RVs.nil.mpr rfl))), by rw [List.length_append]; simp; omega, ?_⟩
              · rw [rD2.length]; omega
              · rw [eq2]
                cases lcL p gt fa (wipeE env (own)) (ds.drop (i + 1)) s4 with
                | ok ys s5 => simp
                | err x s5 => rfl
                | bad => rfl
theorem se_lc {ifs : List Expr} {scope : Scope} {own : List (Str × Nat)} {gt : EB} (hc : X.calm = true) (hN : X.N.Nodup) (hi : SI X W tg iter gi) (ok : BlkOk X.N X.env.scope scope own)
    (hg : ∀ (s : Shared) (H : Hp) (C : Addr) (cl : List (Str × Addr)) (fp : List Addr), SG (X.blk s H scope (compEnvC scope cl C X.env) fp) tg p) (ht : ∀ (s : Shared) (H : Hp) (C : Addr) (cl : List (Str × Addr)) (fp : List Addr), PTs (X.blk s H scope (compEnvC scope cl C X.env) fp) ifs (tT X.K X.mg W0 gt))
    (he : ∀ (s : Shared) (H : Hp) (C : Addr) (cl : List (Str × Addr)) (fp : List Addr), SE (X.blk s H scope (compEnvC scope cl C X.env) fp) W0 fr2 elt fa) (hp : ∀ i ∈ p.slots, i ∈ own.map (·.2) := by decide) (hs : ∀ x, foldedSetIterable iter X.env x = pure x := by intro _; rfl) :
    SE X W true (.ListComp elt [⟨tg, iter, ifs, 0⟩] scope pos) (eLc (own.map (·.2)) p gi gt fa) := PE.imp (pe_lc (g := tG X.K X.mg p) (te := tE X.K X.mg W0 false fa) hc hN hi ok hg ht (fun s H C cl fp => seF (X := X.blk s H scope (compEnvC scope cl C X.env) fp) (he s H C cl fp)) hs) (lc_imp hp)
theorem PTs.imp {es : List Expr} {t t' : TT} (h : PTs X es t) (i : ∀ σ H Q, t' σ H Q → t σ H Q) : PTs X es t' := ⟨fun pins s σ H Q I q => h.run pins s σ H Q I (i σ H Q q)⟩
theorem pts_yes : PTs X [] (tT X.K X.mg W bYes) := PTs.imp pts_nil fun σ H Q ⟨m, env, s', S, E, k⟩ => k.ok S rfl
theorem pts_if (h : ST X W c ga) : PTs X [c] (tT X.K X.mg W ga) := pts_one h
end
end G

end
section
namespace G
open PySem PySem.Spec L2
open PyProof.Rows (envOfC)
variable [Tb]
abbrev Fun1 := List D → Sto → Res D
/-- what a def promises -/
def spD (K : PySem.W.Frag) (mg : Str → Option Value) (n : Nat) (fr : Bool) (F : Fun1) : Sp := fun vs H Q E => ∃ m ds s, Sim K mg m s H ∧ RVs K mg m H ds vs ∧ ds.length = n ∧ KontG K mg (RD K mg fr H) E m H (F ds s) Q
/-- a def of the module that may be called -/
def Cal (P : Program) (w : World) (K : PySem.W.Frag) (mg : Str → Option Value) (base : Heap) (k : Nat) (x : Str) (n : Nat) (fr : Bool) (F : Fun1) : Prop :=
  ∃ f fd ps, FnOk P w K mg base (L2.CX P w) k f fd ps (spD K mg n fr F) ∧ mg x = some (.ref f) ∧ PySem.W.keepIn K (.ref f) = true ∧ Binds K fd ps []
def eCall (F : Fun1) (a : EL) : E := fun env s => (a env s).bind F
def startE (nl : Nat) (ds : List D) : Env := ds.map some ++ List.replicate (nl - ds.length) none
/-- a def that makes no changeable lists -/
def defF (nl : Nat) (g : SM) : Fun1 := fun ds s => match g (startE nl ds) s with
  | .ok (.rt d) _ s' => .ok d s'
  | .ok .nx _ s' => .ok .non s'
  | .err x _ s' => .err x s'
  | _ => .bad
mutual
/-- changeable lists from the number n on are told by content -/
def fz (n : Nat) (c : List (List D)) : D → D
  | .cel i => if i < n then .cel i else .lst (c.getD i [])
  | .tup l => .tup (fzL n c l)
  | .lst l => .lst (fzL n c l)
  | d => d
def fzL (n : Nat) (c : List (List D)) : List D → List D
  | [] => []
  | d :: l => fz n c d :: fzL n c l
end
def cut (n : Nat) (s : Sto) : Sto := { s with cel := s.cel.take n }
/-- a def that does -/
def defC (nl : Nat) (g : SM) : Fun1 := fun ds s => match g (startE nl ds) s with
  | .ok (.rt d) _ s' => .ok (fz s.cel.length s'.cel d) (cut s.cel.length s')
  | .ok .nx _ s' => .ok .non (cut s.cel.length s')
  | .err x _ s' => .err x (cut s.cel.length s')
  | _ => .bad
section
variable {X : Cx} {W : WX} {fr cf fr2 fr3 : Bool} {e a b c : Expr} {es : List Expr} {fa fb fc : E} {gl : EL} {n k : Nat} {pos : Pos}
theorem se_call {x : Str} {p : Pos} {F : Fun1} (cal : Cal X.prog X.w X.K X.mg X.base k x n fr F) (hr : Room k X.A) (tk : Takes X W) (hg : Gl X x) (ha : SA X W n (e :: es) gl) (hdb : (x == ("__debug__" : Str)) = false := by decide)
    (he : starEach (e :: es) X.env = (false, eval e X.env) :: starEach es X.env := by rfl) (hpl : (backTo pos (starEach es X.env)).any (·.1) = false := by rfl) : SE X W fr (.Call (.Name x p) (e :: es) [] pos) (eCall F gl) := by
  obtain ⟨f, fd, ps, ok, hm, hk, hb⟩ := cal
  refine PE.imp (pe_callSD (E := WE W) ok hr hg hm hk hb .nil (fun σ => passAt tk σ) ha hdb he hpl) fun σ H Q ⟨m, env, s, S, E, k⟩ => ?_
  refine ⟨m, env, s, S, E, (KontG.bind k).imp fun xs H1 ⟨dxs, s1, m1, e1, A, k1⟩ => ?_⟩
  refine ⟨m1, dxs, s1, A.sim, ?_, A.rel.2, k1.moveD A.st A.ph⟩
  rw [List.append_nil]
  exact A.rel.1
theorem startE_ok {K : PySem.W.Frag} {mg : Str → Option Value} {m : WM} {H : Hp} {ds : List D} {vs : List V} {N : List Str} (r : RVs K mg m H ds vs) : EnvR K mg m H (startE N.length ds) (L2.start N vs) := by
  unfold startE L2.start
  refine ⟨by simp [r.length], fun i d e => ?_⟩
  by_cases hi : i < ds.length
  · rw [List.getElem?_append_left (by simpa using hi), List.getElem?_map] at e
    cases q : ds[i]? with
    | none => rw [q] at e; cases e
    | some d' =>
      rw [q] at e
      cases e
      obtain ⟨v, q1, q2⟩ := r.get q
      refine ⟨v, ?_, q2⟩
      rw [List.getElem?_append_left (by rw [List.length_map, r.length]; exact hi), List.getElem?_map, q1]
      rfl
  · rw [List.getElem?_append_right (by simpa using hi), List.getElem?_replicate] at e
    split at e <;> cases e
theorem def_ok {P : Program} {w : World} {K : PySem.W.Frag} {mg : Str → Option Value} {base : Heap} {x qual : Str} {params : Arguments} {body : List Stmt} {scope : Scope} {f : Addr} {fd : FuncData} {N ps : List Str} {g : SM}
    (F : FunD K x qual params body scope [] [] f fd) (S : FnScope N ps scope) (hn : ps.length = n)
    (hbody : ∀ (cdv : Value) (A : Around) (outer : List PySem.Env) (s : Shared) (H : Hp) (E : XK), Room k (A.deeper (envOfC qual scope s.heap.objs.size f cdv)) → SSs (cxOf (L2.CX P w) P w K mg base N qual scope f cdv A outer s H E) (fun c d _ H => E c d H) fr false body g) :
    FnOk P w K mg base (L2.CX P w) (k + 1) f fd ps (spD K mg n fr (defF N.length g)) := by
  refine F.ok S (fun vs H Q E ⟨m, ds, s, _, r, hl, _⟩ => by rw [r.length, hl, hn]) fun cdv A outer s H vs Q E hr hsp => ⟨_, hbody cdv A outer s H E hr, ?_⟩
  obtain ⟨m, ds, s0, S0, r, hl, kk⟩ := hsp
  refine ⟨m, _, s0, S0, startE_ok r, ?_⟩
  have kk' : KontG K mg (RD K mg fr H) E m H (match g (startE N.length ds) s0 with | .ok (.rt d) _ s' => .ok d s' | .ok .nx _ s' => .ok .non s' | .err x _ s' => .err x s' | _ => .bad) Q := kk
  revert kk'
  cases g (startE N.length ds) s0 with
  | ok fl env' s' =>
    cases fl with
    | rt d => exact fun k m' σ' H' x1 x2 x3 x4 v x5 => k v m' H' x1 (x2 rfl) x3 x5
    | nx => exact fun k m' σ' H' x1 x2 x3 x4 => k .non m' H' x1 (x2 rfl) x3 ⟨RV.non, fun _ _ _ z => nomatch z⟩
    | bk => exact fun k => k.elim
    | ct => exact fun k => k.elim
  | err x env' s' => exact fun k c dx m' σ' H' x1 x2 x3 x4 x5 => k c dx m' H' x1 (x2 rfl) x3 x5
  | bad => exact fun k => k.elim

/-! changeable lists leave with their def -/
theorem pureL_cons {d : D} {l : List D} : pureL (d :: l) = (d.pure && pureL l) := by rw [pureL]
theorem pureOL_cons {d : D} {l : List D} : pureOL (d :: l) = (d.pureO && pureOL l) := by rw [pureOL]
mutual
theorem RV.shrink {K : PySem.W.Frag} {mg : Str → Option Value} {m m' : WM} {H : Hp} (h1 : ∀ a ∈ m'.phi, a ∈ m.phi) (h2 : m'.psi = m.psi) (h3 : m'.av = m.av) : ∀ (d : D) (v : V), d.pureO = true → RV K mg m H d v → RV K mg m' H d v
  | .non, _, _, h => by unfold RV at h ⊢; exact h
  | .bl _, _, _, h => by unfold RV at h ⊢; exact h
  | .int _, _, _, h => by unfold RV at h ⊢; exact h
  | .str _, _, _, h => by unfold RV at h ⊢; exact h
  | .tup l, _, p, h => by
    unfold RV at h ⊢
    obtain ⟨a, vs, e, q1, hl, q2⟩ := h
    exact ⟨a, vs, e, q1, hl, RVs.shrink h1 h2 h3 l vs (by unfold D.pureO at p; exact p) q2⟩
  | .lst l, _, p, h => by
    unfold RV at h ⊢
    obtain ⟨a, vs, e, q1, n1, n2, hl, q2⟩ := h
    exact ⟨a, vs, e, q1, fun z => n1 (h1 a z), by rw [h3]; exact n2, hl, RVs.shrink h1 h2 h3 l vs (by unfold D.pureO at p; exact p) q2⟩
  | .cel n, _, p, _ => by unfold D.pureO at p; cases p
  | .obj n, _, _, h => by unfold RV at h ⊢; rw [h2]; exact h
  | .fn _, _, _, h => by unfold RV at h ⊢; exact h
  | .ty _, _, _, h => by unfold RV at h ⊢; exact h
  | .scr _, _, _, h => by
    unfold RV at h ⊢
    obtain ⟨a, e, hl, q⟩ := h
    exact ⟨a, e, hl, q.imp id fun ⟨q1, n1, n2⟩ => ⟨q1, fun z => n1 (h1 a z), by rw [h3]; exact n2⟩⟩
theorem RVs.shrink {K : PySem.W.Frag} {mg : Str → Option Value} {m m' : WM} {H : Hp} (h1 : ∀ a ∈ m'.phi, a ∈ m.phi) (h2 : m'.psi = m.psi) (h3 : m'.av = m.av) : ∀ (ds : List D) (vs : List V), pureOL ds = true → RVs K mg m H ds vs → RVs K mg m' H ds vs
  | [], _, _, h => by rw [RVs.nil] at h ⊢; exact h
  | d :: ds, _, p, h => by
    obtain ⟨v, r, e, q1, q2⟩ := RVs.cons.mp h
    rw [pureOL_cons, Bool.and_eq_true] at p
    exact RVs.cons.mpr ⟨v, r, e, RV.shrink h1 h2 h3 d v p.1 q1, RVs.shrink h1 h2 h3 ds r p.2 q2⟩
end
section
variable {K : PySem.W.Frag} {mg : Str → Option Value} {m m' : WM} {H H' : Hp} {s s' : Sto} {t : List Addr}
theorem Sim.cut (S : Sim K mg m' s' H') (hp : m'.phi = m.phi ++ t) (hl : m.phi.length = s.cel.length) : Sim K mg { m' with phi := m.phi } (G.cut s.cel.length s') H' := by
  have sub : ∀ a ∈ m.phi, a ∈ m'.phi := fun a h => by rw [hp]; exact List.mem_append_left _ h
  refine ⟨?_, ?_, fun n a xs e1 e2 => ?_, fun a h => ⟨fun z => (S.al a h).1 (sub a z), (S.al a h).2⟩, S.ol, fun n p o e1 e2 => ?_, S.on, S.tb⟩
  · show m.phi.length = (s'.cel.take s.cel.length).length
    have q := S.cl
    rw [hp, List.length_append] at q
    rw [List.length_take]
    omega
  · have q := S.nd
    rw [hp] at q
    exact (List.nodup_append.mp q).1
  · have hn : n < m.phi.length := (List.getElem?_eq_some_iff.mp e1).1
    have e2' : s'.cel[n]? = some xs := by
      have e3 : (s'.cel.take s.cel.length)[n]? = some xs := e2
      rw [List.getElem?_take_of_lt (by omega)] at e3
      exact e3
    have e1' : m'.phi[n]? = some a := by rw [hp, List.getElem?_append_left hn]; exact e1
    obtain ⟨h0, hz, vs, h1, h2⟩ := S.ce n a xs e1' e2'
    exact ⟨h0, hz, vs, h1, RVs.shrink (m' := { m' with phi := m.phi }) sub rfl rfl _ _ (pureL_O _ h0) h2⟩
  · exact (S.ob n p o e1 e2).map (fun ds vs hp r => RVs.shrink (m' := { m' with phi := m.phi }) sub rfl rfl _ _ hp r) fun u h _ => h
mutual
theorem RV.fz (S : Sim K mg m' s' H') (hp : m'.phi = m.phi ++ t) (hl : m.phi.length = s.cel.length) : ∀ (d : D) (v : V), RV K mg m' H' d v → RV K mg { m' with phi := m.phi } H' (G.fz s.cel.length s'.cel d) v
  | .non, _, h => by unfold G.fz; unfold RV at h ⊢; exact h
  | .bl _, _, h => by unfold G.fz; unfold RV at h ⊢; exact h
  | .int _, _, h => by unfold G.fz; unfold RV at h ⊢; exact h
  | .str _, _, h => by unfold G.fz; unfold RV at h ⊢; exact h
  | .tup l, _, h => by
    unfold G.fz
    unfold RV at h ⊢
    obtain ⟨a, vs, e, q1, hz, q2⟩ := h
    have q3 := RVs.fz S hp hl l vs q2
    exact ⟨a, vs, e, q1, by rw [← q3.length, q2.length]; exact hz, q3⟩
  | .lst l, _, h => by
    unfold G.fz
    unfold RV at h ⊢
    obtain ⟨a, vs, e, q1, n1, n2, hz, q2⟩ := h
    have q3 := RVs.fz S hp hl l vs q2
    exact ⟨a, vs, e, q1, fun z => n1 (by rw [hp]; exact List.mem_append_left _ z), n2, by rw [← q3.length, q2.length]; exact hz, q3⟩
  | .cel n, v, h => by
    unfold RV at h
    obtain ⟨a, e, q⟩ := h
    unfold G.fz
    split
    · rename_i hn
      unfold RV
      refine ⟨a, e, ?_⟩
      rw [hp, List.getElem?_append_left (by omega)] at q
      exact q
    · rename_i hn
      have hn' : n < m'.phi.length := (List.getElem?_eq_some_iff.mp q).1
      have hn2 : n < s'.cel.length := by rw [← S.cl]; exact hn'
      obtain ⟨h0, hz, vs, h1, h2⟩ := S.ce n a s'.cel[n] q (List.getElem?_eq_getElem hn2)
      unfold RV
      have ec : s'.cel.getD n [] = s'.cel[n] := by rw [List.getD_eq_getElem?_getD, List.getElem?_eq_getElem hn2]; rfl
      rw [ec]
      refine ⟨a, vs, e, h1, fun z => ?_, fun z => (S.al a z).1 (List.mem_of_getElem? q), hz, RVs.shrink (m := m') (m' := { m' with phi := m.phi }) (fun a h => by rw [hp]; exact List.mem_append_left _ h) rfl rfl _ _ (pureL_O _ h0) h2⟩
      have nd := S.nd
      rw [hp] at nd q
      rw [List.getElem?_append_right (by omega)] at q
      exact (List.nodup_append.mp nd).2.2 a z a (List.mem_of_getElem? q) rfl
  | .obj n, _, h => by unfold G.fz; unfold RV at h ⊢; exact h
  | .fn _, _, h => by unfold G.fz; unfold RV at h ⊢; exact h
  | .ty _, _, h => by unfold G.fz; unfold RV at h ⊢; exact h
  | .scr _, _, h => by
    unfold G.fz
    unfold RV at h ⊢
    obtain ⟨a, e, hz, q⟩ := h
    exact ⟨a, e, hz, q.imp id fun ⟨q1, n1, n2⟩ => ⟨q1, fun z => n1 (by rw [hp]; exact List.mem_append_left _ z), n2⟩⟩
theorem RVs.fz (S : Sim K mg m' s' H') (hp : m'.phi = m.phi ++ t) (hl : m.phi.length = s.cel.length) : ∀ (ds : List D) (vs : List V), RVs K mg m' H' ds vs → RVs K mg { m' with phi := m.phi } H' (G.fzL s.cel.length s'.cel ds) vs
  | [], _, h => by unfold G.fzL; rw [RVs.nil] at h ⊢; exact h
  | d :: ds, _, h => by
    unfold G.fzL
    obtain ⟨v, r, e, q1, q2⟩ := RVs.cons.mp h
    exact RVs.cons.mpr ⟨v, r, e, RV.fz S hp hl d v q1, RVs.fz S hp hl ds r q2⟩
end
theorem Stp.cut (x : Stp m H m' H') : Stp m H { m' with phi := m.phi } H' := ⟨⟨[], by simp⟩, x.psi, x.av, x.tup, x.lst, x.frz, x.dom⟩
end
end
end G

end
section
namespace G
open PySem PySem.Spec L2
variable [Tb]
/-! ### operations by values -/
theorem size_lit : sizeLine = 16777216 := by decide
/-- a changeable list by its content -/
def asL (s : Sto) : D → Option (List D)
  | .lst l => some l
  | .cel n => s.cel[n]?
  | _ => none
def dAdd : G2 := fun s x y => match x, y with
  | .int i, .int j => some (.int (i + j))
  | .str a, .str b => if a.length + b.length ≤ 16777216 then some (.str (a ++ b)) else none
  | .tup a, .tup b => if a.length + b.length ≤ 16777216 then some (.tup (a ++ b)) else none
  | .lst a, .lst b => if a.length + b.length ≤ 16777216 then some (.lst (a ++ b)) else none
  | .int _, _ => none | .str _, _ => none | .tup _, _ => none
  | x, y => match asL s x, asL s y with
    | some a, some b => if pureL a = true ∧ pureL b = true ∧ a.length + b.length ≤ 16777216 then some (.lst (a ++ b)) else none
    | _, _ => none
def dI2 (f : Int → Int → D) : G2 := fun _ x y => match x, y with
  | .int i, .int j => some (f i j)
  | _, _ => none
def dI2c (c : Int → Int → Bool) (f : Int → Int → D) : G2 := fun _ x y => match x, y with
  | .int i, .int j => if c i j = true then some (f i j) else none
  | _, _ => none
def dSub : G2 := dI2 fun i j => .int (i - j)
def dLt : G2 := dI2 fun i j => .bl (decide (i < j))
def dLe : G2 := dI2 fun i j => .bl (decide (i ≤ j))
def dGt : G2 := dI2 fun i j => .bl (decide (j < i))
def dGe : G2 := dI2 fun i j => .bl (decide (j ≤ i))
def smallI (i : Int) : Bool := decide (-(2 ^ 64) < i ∧ i < 2 ^ 64)
def wideI (i : Int) : Bool := decide (i.natAbs.log2 < 9000)
def dMul : G2 := fun s x y => match x, y with
  | .int i, .int j => if (smallI i || smallI j || (wideI i && wideI j)) = true then some (.int (i * j)) else none
  | .tup l, .int k => if l ≠ [] ∧ 2 ≤ k ∧ k ≤ 1000 ∧ l.length ≤ 1000 then some (.tup (List.replicate k.toNat l).flatten) else none
  | .lst l, .int k => if 0 ≤ k ∧ k ≤ 100000 ∧ l.length * k.toNat ≤ 16777216 then some (.lst (List.replicate k.toNat l).flatten) else none
  | _, _ => none
def dMod : G2 := dI2c (fun _ j => decide (0 < j)) fun i j => .int (i % j)
def dFdiv : G2 := dI2c (fun _ j => decide (0 < j) && (decide (j < 1073741824) || wideI j)) fun i j => .int (i / j)
def dPow : G2 := dI2c (fun i j => decide (0 ≤ j ∧ j ≤ 1000 ∧ i.natAbs < 2 ^ 64)) fun i j => .int (i ^ j.toNat)
/-! data: what == asks -/
mutual
def isData : D → Bool
  | .non => true
  | .bl _ => true
  | .int _ => true
  | .str x => PyData.strOk x
  | .tup l => isDataL l
  | .lst l => isDataL l
  | _ => false
def isDataL : List D → Bool
  | [] => true
  | d :: l => isData d && isDataL l
end
mutual
def depthD : D → Nat
  | .tup l => depthL l + 1
  | .lst l => depthL l + 1
  | _ => 0
def depthL : List D → Nat
  | [] => 0
  | d :: l => max (depthD d) (depthL l)
end
mutual
def toPy : D → PyData
  | .non => .none
  | .bl b => .bool b
  | .int i => .int i
  | .str x => .str x
  | .tup l => .tuple (toPyL l)
  | .lst l => .list (toPyL l)
  | _ => .none
def toPyL : List D → List PyData
  | [] => []
  | d :: l => toPy d :: toPyL l
end
mutual
/-- == -/
def deq : D → D → Bool
  | .non, .non => true
  | .bl a, .bl b => a == b
  | .bl a, .int j => (if a then 1 else 0) == j
  | .int i, .bl b => i == (if b then 1 else 0)
  | .int i, .int j => i == j
  | .str x, .str y => x == y
  | .tup xs, .tup ys => deqL xs ys
  | .lst xs, .lst ys => deqL xs ys
  | _, _ => false
def deqL : List D → List D → Bool
  | [], [] => true
  | x :: xs, y :: ys => deq x y && deqL xs ys
  | _, _ => false
end
def okD (d : D) : Bool := isData d && decide (depthD d ≤ 60)
def deref (s : Sto) : D → D
  | .cel n => match s.cel[n]? with
    | some l => .lst l
    | none => .cel n
  | d => d
def dEq : G2 := fun s x y => if (okD (deref s x) && okD (deref s y)) = true then some (.bl (deq (deref s x) (deref s y))) else none
def dNe : G2 := fun s x y => if (okD (deref s x) && okD (deref s y)) = true then some (.bl (!deq (deref s x) (deref s y))) else none
/-- is None -/
def isNon : D → Bool
  | .non => true
  | _ => false
def dIsN : G2 := fun _ x y => match y with
  | .non => some (.bl (isNon x))
  | _ => none
def dNotN : G2 := fun _ x y => match y with
  | .non => some (.bl (!isNon x))
  | _ => none
/-- in: lists, tuples of data; a text's signs -/
def dInB (s : Sto) (x y : D) : Option Bool := match deref s y with
  | .lst l => if (okD x && okD (.lst l)) = true then some (l.any fun z => deq z x) else none
  | .tup l => if (okD x && okD (.tup l)) = true then some (l.any fun z => deq z x) else none
  | .str z => match x with
    | .str c => if c.length = 1 then some (decide (c.cps.getD 0 0 ∈ z.cps.toList)) else none
    | _ => none
  | _ => none
def dIn : G2 := fun s x y => (dInB s x y).map .bl
def dNotIn : G2 := fun s x y => (dInB s x y).map fun b => .bl (!b)

section
variable {K : PySem.W.Frag} {mg : Str → Option Value} {m : WM} {H : Hp} {s : Sto}
theorem RV.tup' {l : List D} {v : V} (h : RV K mg m H (.tup l) v) : ∃ a vs, v = .ref a ∧ H a = some (.tup vs) ∧ l.length ≤ sizeLine ∧ RVs K mg m H l vs := by unfold RV at h; exact h
theorem RV.lst' {l : List D} {v : V} (h : RV K mg m H (.lst l) v) : ∃ a vs, v = .ref a ∧ H a = some (.lst vs) ∧ a ∉ m.phi ∧ a ∉ m.av ∧ l.length ≤ sizeLine ∧ RVs K mg m H l vs := by unfold RV at h; exact h
theorem RV.cel' {n : Nat} {v : V} (h : RV K mg m H (.cel n) v) : ∃ a, v = .ref a ∧ m.phi[n]? = some a := by unfold RV at h; exact h
theorem RV.ty' {n : String} {v : V} (h : RV K mg m H (.ty n) v) : v = .ty n := by unfold RV at h; exact h
theorem RV.ty {n : String} : RV K mg m H (.ty n) (.ty n) := by unfold RV; rfl
/-- a list of either kind: where it stands -/
theorem asL_at (S : Sim K mg m s H) {d : D} {v : V} {l : List D} (r : RV K mg m H d v) (e : asL s d = some l) : ∃ a vs, v = .ref a ∧ H a = some (.lst vs) ∧ l.length ≤ sizeLine ∧ RVs K mg m H l vs := by
  cases d with
  | lst l' =>
    cases e
    obtain ⟨a, vs, e1, h1, _, _, hz, h2⟩ := r.lst'
    exact ⟨a, vs, e1, h1, hz, h2⟩
  | cel n =>
    obtain ⟨a, e1, h1⟩ := r.cel'
    obtain ⟨_, hz, vs, h2, h3⟩ := S.ce n a l h1 e
    exact ⟨a, vs, e1, h2, hz, h3⟩
  | _ => cases e
theorem fin_lst {l : List D} {vs : List V} {p : Addr} {Q : VK} (S : Sim K mg m s H) (r : RVs K mg m H l vs) (hz : l.length ≤ sizeLine) (hp : H p = none) (k : ∀ v H', Grw H H' → RV K mg m H' (.lst l) v → (∀ l', D.lst l = .lst l' → NewL K mg m H H' l' v) → Q v H') : Q (.ref p) (upd H p (.lst vs)) :=
  k (.ref p) _ (Grw.new hp) (RV.newL S r hp hz) fun l' e => by cases e; exact ⟨p, vs, rfl, hp, upd_same, r⟩
theorem fin_tup {l : List D} {vs : List V} {p : Addr} {Q : VK} (r : RVs K mg m H l vs) (hz : l.length ≤ sizeLine) (hp : H p = none) (k : ∀ v H', Grw H H' → RV K mg m H' (.tup l) v → (∀ l', D.tup l = .lst l' → NewL K mg m H H' l' v) → Q v H') : Q (.ref p) (upd H p (.tup vs)) :=
  k (.ref p) _ (Grw.new hp) (RV.newT r hp hz) fun _ z => nomatch z
/-- a scalar comes -/
theorem fin_sc {d : D} {v : V} {Q : VK} (r : RV K mg m H d v) (h : ∀ l, d ≠ .lst l) (k : ∀ v H', Grw H H' → RV K mg m H' d v → (∀ l', d = .lst l' → NewL K mg m H H' l' v) → Q v H') : Q v H :=
  k v H Grw.refl r fun l e => absurd e (h l)
abbrev rAddAll (K : PySem.W.Frag) : R2 := fun x y H Q => rI0 (fun i j => .int (i + j)) x y H Q ∨ (∃ i j, x = .str i ∧ y = .str j ∧ i.length + j.length ≤ sizeLine ∧ Q (.str (i ++ j)) H) ∨ rCatA K x y H Q ∨ rCat x y H Q
theorem op_addAll {X : Cx} : OpR X (binaryOp .Add) (rAddAll X.K) := OpR.or op_add (OpR.or op_add_str (OpR.or op_catA op_cat))
theorem ok_addL {x y : V} {a b : List D} {Q : VK} {dx dy : D} (S : Sim K mg m s H) (rx : RV K mg m H dx x) (ry : RV K mg m H dy y) (ea : asL s dx = some a) (eb : asL s dy = some b) (hz : a.length + b.length ≤ 16777216)
    (k : ∀ v H', Grw H H' → RV K mg m H' (.lst (a ++ b)) v → (∀ l', D.lst (a ++ b) = .lst l' → NewL K mg m H H' l' v) → Q v H') : rCat x y H Q := by
  obtain ⟨p, vs, rfl, h1, z1, r1⟩ := asL_at S rx ea
  obtain ⟨q, ws, rfl, h2, z2, r2⟩ := asL_at S ry eb
  refine ⟨p, q, vs, ws, rfl, rfl, h1, h2, by rw [r1.length, r2.length, size_lit]; exact hz, fun t ht => ?_⟩
  exact fin_lst S (r1.append r2) (by rw [List.length_append, size_lit]; exact hz) ht k
theorem ok_add : OkOp K mg true (rAddAll K) dAdd := by
  intro m s H x y dx dy d Q S rx ry e k
  have k' : ∀ v H', Grw H H' → RV K mg m H' d v → (∀ l, d = .lst l → NewL K mg m H H' l v) → Q v H' := fun v H' g r f => k v H' g r fun _ => f
  have gen : ∀ a b, asL s dx = some a → asL s dy = some b → a.length + b.length ≤ 16777216 → d = .lst (a ++ b) → rAddAll K x y H Q := by
    intro a b ea eb hz hd
    subst hd
    exact .inr (.inr (.inr (ok_addL S rx ry ea eb hz k')))
  unfold dAdd at e
  split at e
  · cases e
    exact .inl ⟨_, _, rx.int', ry.int', fin_sc RV.int (fun _ z => nomatch z) k'⟩
  · split at e
    · cases e
      rename_i h
      exact .inr (.inl ⟨_, _, rx.str', ry.str', by rw [size_lit]; exact h, fin_sc RV.str (fun _ z => nomatch z) k'⟩)
    · cases e
  · rename_i a b
    split at e
    · cases e
      rename_i h
      obtain ⟨p, vs, rfl, h1, z1, r1⟩ := rx.tup'
      obtain ⟨q, ws, rfl, h2, z2, r2⟩ := ry.tup'
      refine .inr (.inr (.inl ⟨p, q, vs, ws, rfl, rfl, SqT.of h1, SqT.of h2, by rw [r1.length, r2.length, size_lit]; exact h, fun n1 => ?_, fun n1 n2 => ?_, fun n1 n2 t ht => ?_⟩))
      · have e1 : a = [] := by
          have q := r1.length
          rw [n1] at q
          exact List.length_eq_zero_iff.mp q.symm
        subst e1
        exact k' _ _ Grw.refl ry fun _ z => nomatch z
      · have e1 : b = [] := by
          have q := r2.length
          rw [n2] at q
          exact List.length_eq_zero_iff.mp q.symm
        subst e1
        rw [List.append_nil] at k'
        exact k' _ _ Grw.refl rx fun _ z => nomatch z
      · exact fin_tup (r1.append r2) (by rw [List.length_append, size_lit]; exact h) ht k'
    · cases e
  · rename_i a b
    split at e
    · cases e
      rename_i h
      exact gen a b rfl rfl h rfl
    · cases e
  · cases e
  · cases e
  · cases e
  · split at e
    · rename_i a b ea eb
      split at e
      · cases e
        rename_i h
        exact gen a b ea eb h.2.2 rfl
      · cases e
    · cases e
theorem ok_I2 {f : Int → Int → V} {g : Int → Int → D} (hr : ∀ m H i j, RV K mg m H (g i j) (f i j)) (hn : ∀ i j l, g i j ≠ .lst l) : OkOp K mg true (rI0 f) (dI2 g) := by
  intro m s H x y dx dy d Q S rx ry e k
  unfold dI2 at e
  split at e
  · cases e
    exact ⟨_, _, rx.int', ry.int', fin_sc (hr m H _ _) (hn _ _) fun v H' g r f => k v H' g r fun _ => f⟩
  · cases e
theorem ok_I2c {C : Int → Int → Prop} {c : Int → Int → Bool} {f : Int → Int → V} {g : Int → Int → D} (hc : ∀ i j, c i j = true → C i j) (hr : ∀ m H i j, RV K mg m H (g i j) (f i j)) (hn : ∀ i j l, g i j ≠ .lst l) : OkOp K mg true (rI C f) (dI2c c g) := by
  intro m s H x y dx dy d Q S rx ry e k
  unfold dI2c at e
  split at e
  · split at e
    · cases e
      rename_i h
      exact ⟨_, _, rx.int', ry.int', hc _ _ h, fin_sc (hr m H _ _) (hn _ _) fun v H' g r f => k v H' g r fun _ => f⟩
    · cases e
  · cases e
theorem ok_sub : OkOp K mg true (rI0 fun i j => .int (i - j)) dSub := ok_I2 (fun _ _ _ _ => RV.int) fun _ _ _ z => nomatch z
theorem ok_lt : OkOp K mg true (rI0 fun i j => .bl (decide (i < j))) dLt := ok_I2 (fun _ _ _ _ => RV.bl) fun _ _ _ z => nomatch z
theorem ok_le : OkOp K mg true (rI0 fun i j => .bl (decide (i ≤ j))) dLe := ok_I2 (fun _ _ _ _ => RV.bl) fun _ _ _ z => nomatch z
theorem ok_gt : OkOp K mg true (rI0 fun i j => .bl (decide (j < i))) dGt := ok_I2 (fun _ _ _ _ => RV.bl) fun _ _ _ z => nomatch z
theorem ok_ge : OkOp K mg true (rI0 fun i j => .bl (decide (j ≤ i))) dGe := ok_I2 (fun _ _ _ _ => RV.bl) fun _ _ _ z => nomatch z
theorem ok_mod : OkOp K mg true (rI (fun _ j => 0 < j) fun i j => .int (i % j)) dMod := ok_I2c (fun _ _ h => of_decide_eq_true h) (fun _ _ _ _ => RV.int) fun _ _ _ z => nomatch z
theorem ok_pow : OkOp K mg true (rI CPow fun i j => .int (i ^ j.toNat)) dPow := ok_I2c (fun i j h => by
  have h' := of_decide_eq_true h
  exact ⟨h'.1, by omega, h'.2.2⟩) (fun _ _ _ _ => RV.int) fun _ _ _ z => nomatch z
abbrev rFdivAll : R2 := rI (fun i j => CDiv i j ∨ CDivW i j) fun i j => .int (i / j)
theorem op_fdivAll {X : Cx} : OpR X (binaryOp .FloorDiv) rFdivAll := fun pins s σ H x y v u Q I rx ry ⟨i, j, e1, e2, hc, q⟩ => by
  rcases hc with hc | hc
  · exact op_fdiv pins s σ H x y v u Q I rx ry ⟨i, j, e1, e2, hc, q⟩
  · exact op_fdivW pins s σ H x y v u Q I rx ry ⟨i, j, e1, e2, hc, q⟩
theorem ok_fdiv : OkOp K mg true rFdivAll dFdiv := ok_I2c (fun i j h => by
  simp only [Bool.and_eq_true, Bool.or_eq_true, decide_eq_true_eq, wideI] at h
  rcases h with ⟨h1, h2 | h2⟩
  · exact .inl ⟨h1, h2⟩
  · exact .inr ⟨h1, h2⟩) (fun _ _ _ _ => RV.int) fun _ _ _ z => nomatch z
abbrev rMulAll (K : PySem.W.Frag) : R2 := fun x y H Q => rI CMul (fun i j => .int (i * j)) x y H Q ∨ rI CMulW (fun i j => .int (i * j)) x y H Q ∨ rRepT K x y H Q ∨ rRep x y H Q
theorem op_mulAll {X : Cx} : OpR X (binaryOp .Mult) (rMulAll X.K) := OpR.or op_mul (OpR.or op_mulW (OpR.or op_repT op_rep))
theorem RVs.rep {ds : List D} {vs : List V} (h : RVs K mg m H ds vs) : ∀ k : Nat, RVs K mg m H (List.replicate k ds).flatten (List.replicate k vs).flatten
  | 0 => by simp [RVs.nil]
  | k + 1 => by
    rw [List.replicate_succ, List.replicate_succ, List.flatten_cons, List.flatten_cons]
    exact h.append (RVs.rep h k)
theorem len_rep {α : Type} (l : List α) : ∀ k : Nat, (List.replicate k l).flatten.length = l.length * k
  | 0 => by simp
  | k + 1 => by rw [List.replicate_succ, List.flatten_cons, List.length_append, len_rep l k, Nat.mul_succ, Nat.add_comm]
theorem ok_mul : OkOp K mg true (rMulAll K) dMul := by
  intro m s H x y dx dy d Q S rx ry e k
  have k' : ∀ v H', Grw H H' → RV K mg m H' d v → (∀ l, d = .lst l → NewL K mg m H H' l v) → Q v H' := fun v H' g r f => k v H' g r fun _ => f
  unfold dMul at e
  split at e
  · split at e
    · cases e
      rename_i i j h
      simp only [Bool.or_eq_true, Bool.and_eq_true, smallI, wideI, decide_eq_true_eq] at h
      rcases h with (h | h) | ⟨h, h2⟩
      · exact .inl ⟨_, _, rx.int', ry.int', .inl h, fin_sc RV.int (fun _ z => nomatch z) k'⟩
      · exact .inl ⟨_, _, rx.int', ry.int', .inr h, fin_sc RV.int (fun _ z => nomatch z) k'⟩
      · exact .inr (.inl ⟨_, _, rx.int', ry.int', by show _ < 1000000; omega, fin_sc RV.int (fun _ z => nomatch z) k'⟩)
    · cases e
  · rename_i l j
    split at e
    · cases e
      rename_i h
      obtain ⟨n1, n2, n3, n4⟩ := h
      obtain ⟨p, vs, rfl, h1, z1, r1⟩ := rx.tup'
      refine .inr (.inr (.inl ⟨p, j, vs, rfl, ry.int', SqT.of h1, fun z => n1 ?_, n2, n3, by rw [r1.length]; exact n4, fun t ht => ?_⟩))
      · have q := r1.length
        rw [z] at q
        exact List.length_eq_zero_iff.mp q.symm
      · refine fin_tup (r1.rep _) ?_ ht k'
        rw [len_rep, size_lit]
        have : l.length * j.toNat ≤ 1000 * 1000 := Nat.mul_le_mul n4 (by omega)
        omega
    · cases e
  · rename_i l j
    split at e
    · cases e
      rename_i h
      obtain ⟨n1, n2, n3⟩ := h
      obtain ⟨p, vs, rfl, h1, _, _, z1, r1⟩ := rx.lst'
      refine .inr (.inr (.inr ⟨p, j, vs, rfl, ry.int', h1, by omega, by omega, by rw [r1.length, size_lit]; exact n3, fun t ht => ?_⟩))
      exact fin_lst S (r1.rep _) (by rw [len_rep, size_lit]; exact n3) ht k'
    · cases e
  · cases e
/-! equality -/
theorem toPy_lay : (∀ d : D, isData d = true → (toPy d).canLay0 = true ∧ (toPy d).depth = depthD d) ∧ ∀ l : List D, isDataL l = true → PyData.canLayAll0 (toPyL l) = true ∧ PyData.depthAll (toPyL l) = depthL l := by
  have hd : ∀ d : D, isData d = true → (toPy d).canLay0 = true ∧ (toPy d).depth = depthD d := fun d => by
    refine D.rec (motive_1 := fun d => isData d = true → (toPy d).canLay0 = true ∧ (toPy d).depth = depthD d) (motive_2 := fun l => isDataL l = true → PyData.canLayAll0 (toPyL l) = true ∧ PyData.depthAll (toPyL l) = depthL l)
      ?_ ?_ ?_ ?_ ?_ ?_ ?_ ?_ ?_ ?_ ?_ ?_ ?_ d
    all_goals first
      | (intros; rename_i ih h; simp only [isData, toPy, PyData.canLay0, PyData.depth, depthD] at *; exact ⟨(ih h).1, by rw [(ih h).2]⟩)
      | (intros; simp_all [isData, toPy, PyData.canLay0, PyData.depth, depthD, isDataL, toPyL, PyData.canLayAll0, PyData.depthAll, depthL])
  refine ⟨hd, fun l => ?_⟩
  induction l with
  | nil => intro _; simp [toPyL, PyData.canLayAll0, PyData.depthAll, depthL]
  | cons d l ih =>
    intro h
    simp only [isDataL, Bool.and_eq_true] at h
    simp [toPyL, PyData.canLayAll0, PyData.depthAll, depthL, hd d h.1, ih h.2]
theorem shaped_of {d : D} (h : okD d = true) : SeqAt.shaped (toPy d) = true := by
  unfold okD at h
  simp only [Bool.and_eq_true, decide_eq_true_eq] at h
  obtain ⟨h1, h2⟩ := toPy_lay.1 d h.1
  unfold SeqAt.shaped
  rw [h1, h2]
  simp
  omega
mutual
theorem eqv_deq : ∀ (d e : D), isData d = true → isData e = true → PyData.eqv (toPy d) (toPy e) = deq d e
  | .tup l, e, h, h' => by
    cases e <;> simp only [isData, Bool.false_eq_true] at h h' <;> simp [toPy, PyData.eqv, deq]
    exact eqv_deqL l _ h h'
  | .lst l, e, h, h' => by
    cases e <;> simp only [isData, Bool.false_eq_true] at h h' <;> simp [toPy, PyData.eqv, deq]
    exact eqv_deqL l _ h h'
  | .non, e, h, h' => by cases e <;> simp only [isData, Bool.false_eq_true] at h h' <;> simp [toPy, PyData.eqv, deq]
  | .bl _, e, h, h' => by cases e <;> simp only [isData, Bool.false_eq_true] at h h' <;> simp [toPy, PyData.eqv, deq]
  | .int _, e, h, h' => by cases e <;> simp only [isData, Bool.false_eq_true] at h h' <;> simp [toPy, PyData.eqv, deq]
  | .str _, e, h, h' => by cases e <;> simp only [isData, Bool.false_eq_true] at h h' <;> simp [toPy, PyData.eqv, deq]
  | .cel _, e, h, _ => by simp [isData] at h
  | .obj _, e, h, _ => by simp [isData] at h
  | .fn _, e, h, _ => by simp [isData] at h
  | .ty _, e, h, _ => by simp [isData] at h
  | .scr _, e, h, _ => by simp [isData] at h
theorem eqv_deqL : ∀ (l e : List D), isDataL l = true → isDataL e = true → PyData.eqvAll (toPyL l) (toPyL e) = deqL l e
  | [], [], _, _ => by simp [toPyL, PyData.eqvAll, deqL]
  | [], _ :: _, _, _ => by simp [toPyL, PyData.eqvAll, deqL]
  | _ :: _, [], _, _ => by simp [toPyL, PyData.eqvAll, deqL]
  | d :: l, e :: r, h, h' => by
    simp only [isDataL, Bool.and_eq_true] at h h'
    simp only [toPyL, PyData.eqvAll, deqL]
    rw [eqv_deq d e h.1 h'.1, eqv_deqL l r h.2 h'.2]
end
mutual
theorem Dp_of : ∀ (d : D) (v : V), isData d = true → RV K mg m H d v → Dp K H v (toPy d)
  | .non, _, _, r => by rw [r.non']; unfold toPy; exact .non
  | .bl _, _, _, r => by rw [r.bl']; unfold toPy; exact .bl _
  | .int _, _, _, r => by rw [r.int']; unfold toPy; exact .int _
  | .str _, _, _, r => by rw [r.str']; unfold toPy; exact .str _
  | .tup l, _, h, r => by
    obtain ⟨a, vs, e, h1, _, r1⟩ := r.tup'
    rw [e]
    unfold toPy
    exact .tup (SqT.of h1) (Dp_ofL l vs (by unfold isData at h; exact h) r1)
  | .lst l, _, h, r => by
    obtain ⟨a, vs, e, h1, _, _, _, r1⟩ := r.lst'
    rw [e]
    unfold toPy
    exact .lst (SqL.of h1) (Dp_ofL l vs (by unfold isData at h; exact h) r1)
  | .cel _, _, h, _ => by simp [isData] at h
  | .obj _, _, h, _ => by simp [isData] at h
  | .fn _, _, h, _ => by simp [isData] at h
  | .ty _, _, h, _ => by simp [isData] at h
  | .scr _, _, h, _ => by simp [isData] at h
theorem Dp_ofL : ∀ (l : List D) (vs : List V), isDataL l = true → RVs K mg m H l vs → DpAll K H vs (toPyL l)
  | [], _, _, r => by rw [RVs.nil.mp r]; unfold toPyL; exact .nil
  | d :: l, _, h, r => by
    simp only [isDataL, Bool.and_eq_true] at h
    obtain ⟨v, w, e, r1, r2⟩ := RVs.cons.mp r
    rw [e]
    unfold toPyL
    exact .cons (Dp_of d v h.1 r1) (Dp_ofL l w h.2 r2)
end
theorem Dp_deref (S : Sim K mg m s H) {d : D} {v : V} (h : isData (deref s d) = true) (r : RV K mg m H d v) : Dp K H v (toPy (deref s d)) := by
  cases d with
  | cel n =>
    obtain ⟨a, e1, h1⟩ := r.cel'
    cases q : s.cel[n]? with
    | none =>
      have hd : deref s (.cel n) = .cel n := by unfold deref; simp only [q]
      rw [hd] at h; simp [isData] at h
    | some l =>
      have hd : deref s (.cel n) = .lst l := by unfold deref; simp only [q]
      rw [hd] at h ⊢
      obtain ⟨_, hz, vs, h2, h3⟩ := S.ce n a l h1 q
      subst e1
      unfold toPy
      exact .lst (SqL.of h2) (Dp_ofL l vs (by unfold isData at h; exact h) h3)
  | _ => exact Dp_of _ v h r
theorem okD_data {d : D} (h : okD d = true) : isData d = true := (Bool.and_eq_true_iff.mp h).1
theorem ok_eq : OkOp K mg true (rEqD K) dEq := by
  intro m s H x y dx dy d Q S rx ry e k
  unfold dEq at e
  split at e
  · cases e
    rename_i h
    obtain ⟨h1, h2⟩ := Bool.and_eq_true_iff.mp h
    refine ⟨_, _, Dp_deref S (okD_data h1) rx, Dp_deref S (okD_data h2) ry, shaped_of h1, shaped_of h2, ?_⟩
    rw [eqv_deq _ _ (okD_data h1) (okD_data h2)]
    exact fin_sc RV.bl (fun _ z => nomatch z) fun v H' g r f => k v H' g r fun _ => f
  · cases e
theorem ok_ne : OkOp K mg true (rNeD K) dNe := by
  intro m s H x y dx dy d Q S rx ry e k
  unfold dNe at e
  split at e
  · cases e
    rename_i h
    obtain ⟨h1, h2⟩ := Bool.and_eq_true_iff.mp h
    refine ⟨_, _, Dp_deref S (okD_data h1) rx, Dp_deref S (okD_data h2) ry, shaped_of h1, shaped_of h2, ?_⟩
    rw [eqv_deq _ _ (okD_data h1) (okD_data h2)]
    exact fin_sc RV.bl (fun _ z => nomatch z) fun v H' g r f => k v H' g r fun _ => f
  · cases e
theorem isN_dec {d : D} {v : V} (r : RV K mg m H d v) : decide (v = V.non) = isNon d := by
  cases d with
  | non => rw [r.non']; rfl
  | bl _ => rw [r.bl']; rfl
  | int _ => rw [r.int']; rfl
  | str _ => rw [r.str']; rfl
  | ty _ => rw [r.ty']; rfl
  | tup _ => obtain ⟨a, _, e, _⟩ := r.tup'; rw [e]; rfl
  | lst _ => obtain ⟨a, _, e, _⟩ := r.lst'; rw [e]; rfl
  | cel _ => obtain ⟨a, e, _⟩ := r.cel'; rw [e]; rfl
  | obj _ => unfold RV at r; obtain ⟨a, e, _⟩ := r; rw [e]; rfl
  | fn _ => unfold RV at r; obtain ⟨a, e, _⟩ := r; rw [e]; rfl
  | scr _ => unfold RV at r; obtain ⟨a, e, _⟩ := r; rw [e]; rfl
theorem ok_isN : OkOp K mg true (fun x y H Q => y = .non ∧ Q (.bl (decide (x = .non))) H) dIsN := by
  intro m s H x y dx dy d Q S rx ry e k
  unfold dIsN at e
  split at e
  · cases e
    exact ⟨ry.non', by rw [isN_dec rx]; exact fin_sc RV.bl (fun _ z => nomatch z) fun v H' g r f => k v H' g r fun _ => f⟩
  · cases e
theorem ok_notN : OkOp K mg true (fun x y H Q => y = .non ∧ Q (.bl (!decide (x = .non))) H) dNotN := by
  intro m s H x y dx dy d Q S rx ry e k
  unfold dNotN at e
  split at e
  · cases e
    exact ⟨ry.non', by rw [isN_dec rx]; exact fin_sc RV.bl (fun _ z => nomatch z) fun v H' g r f => k v H' g r fun _ => f⟩
  · cases e
end
end G

end
section
namespace G
open PySem PySem.Spec L2
variable [Tb]
/-! ### in -/
abbrev rInT (K : PySem.W.Frag) (b : Bool) : R2 := fun x y H Q => ∃ d ds, Dp K H x d ∧ Dp K H y (.tuple ds) ∧ SeqAt.shaped d = true ∧ SeqAt.shaped (.tuple ds) = true ∧ Q (.bl (b != ds.any fun z => PyData.eqv z d)) H
theorem op_inT {X : Cx} (hu : X.A.units + 65 < cLine) : OpR X (compareOp .In) (rInT X.K false) := by
  intro pins s σ H x y v u Q I rx ry h
  obtain ⟨d, ds, hd, he, sd, se, q⟩ := h
  obtain ⟨as, r1⟩ := Dp.reads I d x v hd rx
  obtain ⟨bs, r2⟩ := Dp.reads I (.tuple ds) y u he ry
  have hr : X.A.units + 1 + min (PyData.depthAll ds) d.depth < cLine := by
    have := SeqAt.depth_of_shaped sd
    omega
  exact SeqAt.in_tuple_reads r2 r1 (SeqAt.canLay_of_shaped se) (SeqAt.canLay_of_shaped sd) hr ⟨.bl _, H, I, by simp [RelV], q⟩
theorem op_notInT {X : Cx} (hu : X.A.units + 65 < cLine) : OpR X (compareOp .NotIn) (rInT X.K true) := by
  intro pins s σ H x y v u Q I rx ry h
  obtain ⟨d, ds, hd, he, sd, se, q⟩ := h
  obtain ⟨as, r1⟩ := Dp.reads I d x v hd rx
  obtain ⟨bs, r2⟩ := Dp.reads I (.tuple ds) y u he ry
  have hr : X.A.units + 1 + min (PyData.depthAll ds) d.depth < cLine := by
    have := SeqAt.depth_of_shaped sd
    omega
  exact SeqAt.notIn_tuple_reads r2 r1 (SeqAt.canLay_of_shaped se) (SeqAt.canLay_of_shaped sd) hr ⟨.bl _, H, I, by simp [RelV], q⟩
abbrev rInAll (K : PySem.W.Frag) : R2 := fun x y H Q => rInD K x y H Q ∨ rInT K false x y H Q ∨ (∃ (c : Nat) (z : Str), x = .str ⟨#[c]⟩ ∧ y = .str z ∧ Q (.bl (decide (c ∈ z.cps.toList))) H)
abbrev rNotInAll (K : PySem.W.Frag) : R2 := fun x y H Q => rNotInD K x y H Q ∨ rInT K true x y H Q ∨ (∃ (c : Nat) (z : Str), x = .str ⟨#[c]⟩ ∧ y = .str z ∧ Q (.bl (!decide (c ∈ z.cps.toList))) H)
theorem op_inAll {X : Cx} (hu : X.A.units + 65 < cLine) : OpR X (compareOp .In) (rInAll X.K) := OpR.or (op_inD hu) (OpR.or (op_inT hu) op_in_sign)
theorem op_notInAll {X : Cx} (hu : X.A.units + 65 < cLine) : OpR X (compareOp .NotIn) (rNotInAll X.K) := OpR.or (op_notInD hu) (OpR.or (op_notInT hu) op_notIn_sign)
section
variable {K : PySem.W.Frag} {mg : Str → Option Value} {m : WM} {H : Hp} {s : Sto}
theorem any_toPy {x : D} (hx : isData x = true) : ∀ l : List D, isDataL l = true → ((toPyL l).any fun z => PyData.eqv z (toPy x)) = l.any fun z => deq z x
  | [], _ => by simp [toPyL]
  | d :: l, h => by
    simp only [isDataL, Bool.and_eq_true] at h
    simp only [toPyL, List.any_cons]
    rw [eqv_deq d x h.1 hx, any_toPy hx l h.2]
theorem str_one {c : Str} (h : c.length = 1) : c = ⟨#[c.cps.getD 0 0]⟩ := by
  obtain ⟨⟨l⟩⟩ := c
  have h' : l.length = 1 := h
  match l, h' with
  | [a], _ => rfl
theorem inB_cases {x y : V} {dx dy : D} {b : Bool} (S : Sim K mg m s H) (rx : RV K mg m H dx x) (ry : RV K mg m H dy y) (e : dInB s dx dy = some b) :
    (∃ d ds, Dp K H x d ∧ Dp K H y (.list ds) ∧ SeqAt.shaped d = true ∧ SeqAt.shaped (.list ds) = true ∧ (ds.any fun z => PyData.eqv z d) = b) ∨
    (∃ d ds, Dp K H x d ∧ Dp K H y (.tuple ds) ∧ SeqAt.shaped d = true ∧ SeqAt.shaped (.tuple ds) = true ∧ (ds.any fun z => PyData.eqv z d) = b) ∨
    (∃ (c : Nat) (z : Str), x = .str ⟨#[c]⟩ ∧ y = .str z ∧ decide (c ∈ z.cps.toList) = b) := by
  unfold dInB at e
  split at e
  · rename_i l hl
    split at e
    · cases e
      rename_i h
      obtain ⟨h1, h2⟩ := Bool.and_eq_true_iff.mp h
      have hd : isDataL l = true := by have := okD_data h2; unfold isData at this; exact this
      refine .inl ⟨toPy dx, toPyL l, Dp_of _ _ (okD_data h1) rx, ?_, shaped_of h1, ?_, any_toPy (okD_data h1) l hd⟩
      · have := Dp_deref S (by rw [hl]; exact okD_data h2) ry
        rw [hl] at this
        unfold toPy at this
        exact this
      · have := shaped_of h2
        unfold toPy at this
        exact this
    · cases e
  · rename_i l hl
    split at e
    · cases e
      rename_i h
      obtain ⟨h1, h2⟩ := Bool.and_eq_true_iff.mp h
      have hd : isDataL l = true := by have := okD_data h2; unfold isData at this; exact this
      refine .inr (.inl ⟨toPy dx, toPyL l, Dp_of _ _ (okD_data h1) rx, ?_, shaped_of h1, ?_, any_toPy (okD_data h1) l hd⟩)
      · have := Dp_deref S (by rw [hl]; exact okD_data h2) ry
        rw [hl] at this
        unfold toPy at this
        exact this
      · have := shaped_of h2
        unfold toPy at this
        exact this
    · cases e
  · rename_i z hz
    have ey : dy = .str z := by
      cases dy with
      | cel n =>
        unfold deref at hz
        simp only at hz
        split at hz <;> cases hz
      | _ => exact hz
    subst ey
    split at e
    · rename_i c
      split at e
      · cases e
        rename_i h
        refine .inr (.inr ⟨_, z, ?_, ry.str', rfl⟩)
        rw [rx.str', ← str_one h]
      · cases e
    · cases e
  · cases e
theorem ok_in : OkOp K mg true (rInAll K) dIn := by
  intro m s H x y dx dy d Q S rx ry e k
  have k' : ∀ v H', Grw H H' → RV K mg m H' d v → (∀ l, d = .lst l → NewL K mg m H H' l v) → Q v H' := fun v H' g r f => k v H' g r fun _ => f
  unfold dIn at e
  cases q : dInB s dx dy with
  | none => rw [q] at e; cases e
  | some b =>
    rw [q] at e
    cases e
    rcases inB_cases S rx ry q with ⟨d, ds, h1, h2, h3, h4, e⟩ | ⟨d, ds, h1, h2, h3, h4, e⟩ | ⟨c, z, h1, h2, e⟩
    · exact .inl ⟨d, ds, h1, h2, h3, h4, by rw [e]; exact fin_sc RV.bl (fun _ z => nomatch z) k'⟩
    · exact .inr (.inl ⟨d, ds, h1, h2, h3, h4, by rw [e, Bool.false_bne]; exact fin_sc RV.bl (fun _ z => nomatch z) k'⟩)
    · exact .inr (.inr ⟨c, z, h1, h2, by rw [e]; exact fin_sc RV.bl (fun _ z => nomatch z) k'⟩)
theorem ok_notIn : OkOp K mg true (rNotInAll K) dNotIn := by
  intro m s H x y dx dy d Q S rx ry e k
  have k' : ∀ v H', Grw H H' → RV K mg m H' d v → (∀ l, d = .lst l → NewL K mg m H H' l v) → Q v H' := fun v H' g r f => k v H' g r fun _ => f
  unfold dNotIn at e
  cases q : dInB s dx dy with
  | none => rw [q] at e; cases e
  | some b =>
    rw [q] at e
    cases e
    rcases inB_cases S rx ry q with ⟨d, ds, h1, h2, h3, h4, e⟩ | ⟨d, ds, h1, h2, h3, h4, e⟩ | ⟨c, z, h1, h2, e⟩
    · exact .inl ⟨d, ds, h1, h2, h3, h4, by rw [e]; exact fin_sc RV.bl (fun _ z => nomatch z) k'⟩
    · exact .inr (.inl ⟨d, ds, h1, h2, h3, h4, by rw [e, Bool.true_bne]; exact fin_sc RV.bl (fun _ z => nomatch z) k'⟩)
    · exact .inr (.inr ⟨c, z, h1, h2, by rw [e]; exact fin_sc RV.bl (fun _ z => nomatch z) k'⟩)
/-! ### -x -/
def dNeg : Sto → D → Option D := fun _ x => match x with
  | .int i => some (.int (-i))
  | _ => none
theorem ok_neg : OkU K mg true (rU fun i => .int (-i)) dNeg := by
  intro m s H x dx d Q S rx e k
  unfold dNeg at e
  split at e
  · cases e
    exact ⟨_, rx.int', fin_sc RV.int (fun _ z => nomatch z) fun v H' g r f => k v H' g r fun _ => f⟩
  · cases e
/-! ### isinstance -/
def tyN : D → Option String
  | .non => some "NoneType"
  | .bl _ => some "bool"
  | .int _ => some "int"
  | .str _ => some "str"
  | .tup _ => some "tuple"
  | .lst _ => some "list"
  | .cel _ => some "list"
  | _ => none
def isiB (a b : String) : Option Bool := match b with
  | "int" => some (a == "int" || a == "bool")
  | "bool" => some (a == "bool")
  | "str" => some (a == "str")
  | "tuple" => some (a == "tuple")
  | "list" => some (a == "list")
  | _ => none
def gIsi : GL := fun _ ds => match ds with
  | [x, .ty T] => (tyN x).bind fun a => (isiB a T).map .bl
  | _ => none
theorem kit_all : ∀ a ∈ ["NoneType", "bool", "int", "str", "tuple", "list"], ∀ b ∈ ["int", "bool", "str", "tuple", "list"], kitB a b = isiB a b := by decide +kernel
theorem tyN_of (S : Sim K mg m s H) {d : D} {v : V} {a : String} (r : RV K mg m H d v) (e : tyN d = some a) (hc : ∀ n, d = .cel n → n < s.cel.length) : TyX K H v (.type a) := by
  cases d with
  | non => cases e; rw [r.non']; exact .base .non
  | bl _ => cases e; rw [r.bl']; exact .base (.bl _)
  | int _ => cases e; rw [r.int']; exact .base (.int _)
  | str _ => cases e; rw [r.str']; exact .base (.str _)
  | tup _ => cases e; obtain ⟨p, vs, e1, h1, _⟩ := r.tup'; rw [e1]; exact .base (.tup h1)
  | lst _ => cases e; obtain ⟨p, vs, e1, h1, _⟩ := r.lst'; rw [e1]; exact .base (.lst h1)
  | cel n =>
    cases e
    obtain ⟨p, e1, h1⟩ := r.cel'
    obtain ⟨_, _, vs, h2, _⟩ := S.ce n p _ h1 (List.getElem?_eq_getElem (hc n rfl))
    rw [e1]; exact .base (.lst h2)
  | _ => cases e
theorem Sim.celLt (S : Sim K mg m s H) {n : Nat} {v : V} (r : RV K mg m H (.cel n) v) : n < s.cel.length := by
  obtain ⟨a, _, h⟩ := r.cel'
  rw [← S.cl]
  exact (List.getElem?_eq_some_iff.mp h).1
theorem ok_isi : OkL K mg true (rIsi K) gIsi := by
  intro m s H xs ds d Q S r e k
  unfold gIsi at e
  split at e
  · rename_i x T
    obtain ⟨v, w, e1, r1, r2⟩ := RVs.cons.mp r
    obtain ⟨v2, w2, e2, r3, r4⟩ := RVs.cons.mp r2
    rw [RVs.nil] at r4
    subst e1 e2 r4
    cases q : tyN x with
    | none => rw [q] at e; cases e
    | some a =>
      rw [q] at e
      cases q2 : isiB a T with
      | none => rw [Option.bind_some, q2] at e; cases e
      | some b =>
        rw [Option.bind_some, q2] at e
        cases e
        have ha : a ∈ ["NoneType", "bool", "int", "str", "tuple", "list"] := by
          unfold tyN at q
          split at q <;> cases q <;> decide
        have hT : T ∈ ["int", "bool", "str", "tuple", "list"] := by
          unfold isiB at q2
          split at q2 <;> first | decide | cases q2
        rw [r3.ty']
        refine ⟨v, .ty T, .type a, .type T, b, rfl, .ty T, tyN_of S r1 q (fun n hn => by subst hn; exact S.celLt r1), kit_ty (by rw [kit_all a ha T hT, q2]), ?_⟩
        exact fin_sc RV.bl (fun _ z => nomatch z) fun v H' g r f => k v H' g r fun _ => f
  · cases e
/-! ### built-ins by values -/
theorem one {d : D} {xs : List V} (r : RVs K mg m H [d] xs) : ∃ v, xs = [v] ∧ RV K mg m H d v := by
  obtain ⟨v, w, e1, r1, r2⟩ := RVs.cons.mp r
  rw [RVs.nil] at r2
  subst r2
  exact ⟨v, e1, r1⟩
theorem two {d e : D} {xs : List V} (r : RVs K mg m H [d, e] xs) : ∃ v w, xs = [v, w] ∧ RV K mg m H d v ∧ RV K mg m H e w := by
  obtain ⟨v, w, e1, r1, r2⟩ := RVs.cons.mp r
  obtain ⟨w', e2, r3⟩ := one r2
  subst e2
  exact ⟨v, w', e1, r1, r3⟩
def gLen : GL := fun s ds => match ds with
  | [.tup l] => some (.int l.length)
  | [.str x] => if x.length ≤ 16777216 then some (.int x.length) else none
  | [.scr l] => some (.int l.length)
  | [d] => (asL s d).map fun l => .int l.length
  | _ => none
abbrev rLenAll (K : PySem.W.Frag) : List V → Hp → VK → Prop := fun xs H Q => (∃ p ys, xs = [.ref p] ∧ (SqL K H p ys ∨ SqT K H p ys) ∧ Q (.int ys.length) H) ∨ (∃ z, xs = [.str z] ∧ z.length ≤ sizeLine ∧ Q (.int z.length) H)
theorem call_lenAll {X : Cx} : CallR X (.builtin "len") (rLenAll X.K) := CallR.or call_len_seq call_len_str
theorem ok_len : OkL K mg true (rLenAll K) gLen := by
  intro m s H xs ds d Q S r e k
  have k' : ∀ v H', Grw H H' → RV K mg m H' d v → (∀ l, d = .lst l → NewL K mg m H H' l v) → Q v H' := fun v H' g r f => k v H' g r fun _ => f
  unfold gLen at e
  split at e
  · cases e
    obtain ⟨v, rfl, r1⟩ := one r
    obtain ⟨p, vs, rfl, h1, _, r2⟩ := r1.tup'
    exact .inl ⟨p, vs, rfl, .inr (SqT.of h1), by rw [r2.length]; exact fin_sc RV.int (fun _ z => nomatch z) k'⟩
  · split at e
    · cases e
      rename_i h
      obtain ⟨v, rfl, r1⟩ := one r
      exact .inr ⟨_, by rw [r1.str'], by rw [size_lit]; exact h, fin_sc RV.int (fun _ z => nomatch z) k'⟩
    · cases e
  · cases e
    obtain ⟨v, rfl, r1⟩ := one r
    unfold RV at r1
    obtain ⟨a, rfl, _, h1⟩ := r1
    exact .inl ⟨a, _, rfl, .inl (ScrAt.sq' h1), by rw [List.length_map]; exact fin_sc RV.int (fun _ z => nomatch z) k'⟩
  · rename_i dd _ _ _
    cases q : asL s dd with
    | none => rw [q] at e; cases e
    | some l =>
      rw [q] at e
      cases e
      obtain ⟨v, rfl, r1⟩ := one r
      obtain ⟨p, vs, rfl, h1, _, r2⟩ := asL_at S r1 q
      exact .inl ⟨p, vs, rfl, .inl (SqL.of h1), by rw [r2.length]; exact fin_sc RV.int (fun _ z => nomatch z) k'⟩
  · cases e
def gAbs : GL := fun _ ds => match ds with
  | [.int i] => some (.int (if i < 0 then -i else i))
  | _ => none
theorem ok_abs : OkL K mg true (fun xs H Q => ∃ i, xs = [.int i] ∧ Q (.int (if i < 0 then -i else i)) H) gAbs := by
  intro m s H xs ds d Q S r e k
  unfold gAbs at e
  split at e
  · cases e
    obtain ⟨v, rfl, r1⟩ := one r
    exact ⟨_, by rw [r1.int'], fin_sc RV.int (fun _ z => nomatch z) fun v H' g r f => k v H' g r fun _ => f⟩
  · cases e
def gMax2 : GL := fun _ ds => match ds with
  | [.int i, .int j] => some (.int (if j > i then j else i))
  | _ => none
def gMin2 : GL := fun _ ds => match ds with
  | [.int i, .int j] => some (.int (if j < i then j else i))
  | _ => none
theorem ok_max2 : OkL K mg true (fun xs H Q => ∃ i j, xs = [.int i, .int j] ∧ Q (.int (if j > i then j else i)) H) gMax2 := by
  intro m s H xs ds d Q S r e k
  unfold gMax2 at e
  split at e
  · cases e
    obtain ⟨v, w, rfl, r1, r2⟩ := two r
    exact ⟨_, _, by rw [r1.int', r2.int'], fin_sc RV.int (fun _ z => nomatch z) fun v H' g r f => k v H' g r fun _ => f⟩
  · cases e
theorem ok_min2 : OkL K mg true (fun xs H Q => ∃ i j, xs = [.int i, .int j] ∧ Q (.int (if j < i then j else i)) H) gMin2 := by
  intro m s H xs ds d Q S r e k
  unfold gMin2 at e
  split at e
  · cases e
    obtain ⟨v, w, rfl, r1, r2⟩ := two r
    exact ⟨_, _, by rw [r1.int', r2.int'], fin_sc RV.int (fun _ z => nomatch z) fun v H' g r f => k v H' g r fun _ => f⟩
  · cases e
def gInt : GL := fun _ ds => match ds with
  | [.int i] => some (.int i)
  | [.bl b] => some (.int (if b then 1 else 0))
  | _ => none
theorem ok_int : OkL K mg true (fun xs H Q => (∃ i, xs = [.int i] ∧ Q (.int i) H) ∨ ∃ k, xs = [.bl k] ∧ Q (.int (if k then 1 else 0)) H) gInt := by
  intro m s H xs ds d Q S r e k
  unfold gInt at e
  split at e
  · cases e
    obtain ⟨v, rfl, r1⟩ := one r
    exact .inl ⟨_, by rw [r1.int'], fin_sc RV.int (fun _ z => nomatch z) fun v H' g r f => k v H' g r fun _ => f⟩
  · cases e
    obtain ⟨v, rfl, r1⟩ := one r
    exact .inr ⟨_, by rw [r1.bl'], fin_sc RV.int (fun _ z => nomatch z) fun v H' g r f => k v H' g r fun _ => f⟩
  · cases e
def gBool : GL := fun _ ds => match ds with
  | [.bl b] => some (.bl b)
  | _ => none
theorem ok_bool : OkL K mg true (fun xs H Q => (∃ i, xs = [.int i] ∧ Q (.bl (i != 0)) H) ∨ ∃ k, xs = [.bl k] ∧ Q (.bl k) H) gBool := by
  intro m s H xs ds d Q S r e k
  unfold gBool at e
  split at e
  · cases e
    obtain ⟨v, rfl, r1⟩ := one r
    exact .inr ⟨_, by rw [r1.bl'], fin_sc RV.bl (fun _ z => nomatch z) fun v H' g r f => k v H' g r fun _ => f⟩
  · cases e
def gStrI : GL := fun _ ds => match ds with
  | [.int i] => if i.natAbs.log2 < 1920 then some (.str (toString i)) else none
  | _ => none
theorem ok_strI : OkL K mg true (fun xs H Q => ∃ i : Int, xs = [.int i] ∧ i.natAbs.log2 < 1920 ∧ Q (.str (toString i)) H) gStrI := by
  intro m s H xs ds d Q S r e k
  unfold gStrI at e
  split at e
  · split at e
    · cases e
      rename_i h
      obtain ⟨v, rfl, r1⟩ := one r
      exact ⟨_, by rw [r1.int'], h, fin_sc RV.str (fun _ z => nomatch z) fun v H' g r f => k v H' g r fun _ => f⟩
    · cases e
  · cases e
/-! truth values, numbers in a list -/
def asBools : List D → Option (List Bool)
  | [] => some []
  | .bl b :: l => (asBools l).map (b :: ·)
  | _ :: _ => none
def asInts : List D → Option (List Int)
  | [] => some []
  | .int b :: l => (asInts l).map (b :: ·)
  | _ :: _ => none
theorem asBools_at : ∀ {l : List D} {bs : List Bool} {vs : List V}, asBools l = some bs → RVs K mg m H l vs → vs = bs.map V.bl
  | [], _, _, e, r => by cases e; rw [RVs.nil.mp r]; rfl
  | d :: l, _, _, e, r => by
    cases d with
    | bl b =>
      unfold asBools at e
      cases q : asBools l with
      | none => rw [q] at e; cases e
      | some bs' =>
        rw [q] at e
        cases e
        obtain ⟨v, w, e1, r1, r2⟩ := RVs.cons.mp r
        rw [e1, r1.bl', asBools_at q r2]
        rfl
    | _ => cases e
theorem asInts_at : ∀ {l : List D} {bs : List Int} {vs : List V}, asInts l = some bs → RVs K mg m H l vs → vs = bs.map V.int
  | [], _, _, e, r => by cases e; rw [RVs.nil.mp r]; rfl
  | d :: l, _, _, e, r => by
    cases d with
    | int b =>
      unfold asInts at e
      cases q : asInts l with
      | none => rw [q] at e; cases e
      | some bs' =>
        rw [q] at e
        cases e
        obtain ⟨v, w, e1, r1, r2⟩ := RVs.cons.mp r
        rw [e1, r1.int', asInts_at q r2]
        rfl
    | _ => cases e
def gAll : GL := fun s ds => match ds with
  | [.lst l] => (asBools l).map fun bs => .bl (bs.all id)
  | _ => none
def gAny : GL := fun s ds => match ds with
  | [.lst l] => (asBools l).map fun bs => .bl (bs.any id)
  | _ => none
def gSum : GL := fun s ds => match ds with
  | [.lst l] => (asInts l).map fun bs => .int bs.sum
  | _ => none
theorem ok_all : OkL K mg true (rAll K) gAll := by
  intro m s H xs ds d Q S r e k
  unfold gAll at e
  split at e
  · rename_i l
    cases q : asBools l with
    | none => rw [q] at e; cases e
    | some bs =>
      rw [q] at e
      cases e
      obtain ⟨v, rfl, r1⟩ := one r
      obtain ⟨p, vs, rfl, h1, _, _, _, r2⟩ := r1.lst'
      have ev := asBools_at q r2
      subst ev
      exact ⟨p, bs, rfl, SqL.of h1, fin_sc RV.bl (fun _ z => nomatch z) fun v H' g r f => k v H' g r fun _ => f⟩
  · cases e
theorem ok_any : OkL K mg true (rAny K) gAny := by
  intro m s H xs ds d Q S r e k
  unfold gAny at e
  split at e
  · rename_i l
    cases q : asBools l with
    | none => rw [q] at e; cases e
    | some bs =>
      rw [q] at e
      cases e
      obtain ⟨v, rfl, r1⟩ := one r
      obtain ⟨p, vs, rfl, h1, _, _, _, r2⟩ := r1.lst'
      have ev := asBools_at q r2
      subst ev
      exact ⟨p, bs, rfl, SqL.of h1, fin_sc RV.bl (fun _ z => nomatch z) fun v H' g r f => k v H' g r fun _ => f⟩
  · cases e
theorem ok_sum : OkL K mg true (rSum K) gSum := by
  intro m s H xs ds d Q S r e k
  unfold gSum at e
  split at e
  · rename_i l
    cases q : asInts l with
    | none => rw [q] at e; cases e
    | some bs =>
      rw [q] at e
      cases e
      obtain ⟨v, rfl, r1⟩ := one r
      obtain ⟨p, vs, rfl, h1, _, _, _, r2⟩ := r1.lst'
      have ev := asInts_at q r2
      subst ev
      exact ⟨p, bs, rfl, SqL.of h1, fin_sc RV.int (fun _ z => nomatch z) fun v H' g r f => k v H' g r fun _ => f⟩
  · cases e
/-! tuple(x), list(x) -/
def gTup : GL := fun s ds => match ds with
  | [.tup l] => some (.tup l)
  | [.lst l] => some (.tup l)
  | [.cel n] => match s.cel[n]? with
    | some l => some (.tup l)
    | none => none
  | _ => none
def gLst : GL := fun s ds => match ds with
  | [.tup l] => some (.lst l)
  | [d] => (asL s d).map .lst
  | _ => none
abbrev rTupAll (K : PySem.W.Frag) : List V → Hp → VK → Prop := fun xs H Q => ∃ p ys, xs = [.ref p] ∧ ((SqL K H p ys ∧ ∀ l, H l = none → Q (.ref l) (upd H l (.tup ys))) ∨ (SqT K H p ys ∧ Q (.ref p) H))
theorem ok_tup : OkL K mg true (rTupAll K) gTup := by
  intro m s H xs ds d Q S r e k
  have k' : ∀ v H', Grw H H' → RV K mg m H' d v → (∀ l, d = .lst l → NewL K mg m H H' l v) → Q v H' := fun v H' g r f => k v H' g r fun _ => f
  unfold gTup at e
  split at e
  · cases e
    obtain ⟨v, rfl, r1⟩ := one r
    obtain ⟨p, vs, rfl, h1, hz, r2⟩ := r1.tup'
    exact ⟨p, vs, rfl, .inr ⟨SqT.of h1, k' _ _ Grw.refl r1 fun _ z => nomatch z⟩⟩
  · cases e
    obtain ⟨v, rfl, r1⟩ := one r
    obtain ⟨p, vs, rfl, h1, _, _, hz, r2⟩ := r1.lst'
    exact ⟨p, vs, rfl, .inl ⟨SqL.of h1, fun l hl => fin_tup r2 hz hl k'⟩⟩
  · rename_i n
    cases q : s.cel[n]? with
    | none => rw [q] at e; cases e
    | some l =>
      rw [q] at e
      cases e
      obtain ⟨v, rfl, r1⟩ := one r
      obtain ⟨p, vs, rfl, h1, hz, r2⟩ := asL_at S (d := .cel n) r1 q
      exact ⟨p, vs, rfl, .inl ⟨SqL.of h1, fun l hl => fin_tup r2 hz hl k'⟩⟩
  · cases e
theorem ok_lst : OkL K mg true (fun xs H Q => ∃ p ys, xs = [.ref p] ∧ (SqL K H p ys ∨ SqT K H p ys) ∧ ∀ l, H l = none → Q (.ref l) (upd H l (.lst ys))) gLst := by
  intro m s H xs ds d Q S r e k
  have k' : ∀ v H', Grw H H' → RV K mg m H' d v → (∀ l, d = .lst l → NewL K mg m H H' l v) → Q v H' := fun v H' g r f => k v H' g r fun _ => f
  unfold gLst at e
  split at e
  · cases e
    obtain ⟨v, rfl, r1⟩ := one r
    obtain ⟨p, vs, rfl, h1, hz, r2⟩ := r1.tup'
    exact ⟨p, vs, rfl, .inr (SqT.of h1), fun l hl => fin_lst S r2 hz hl k'⟩
  · rename_i dd _
    cases q : asL s dd with
    | none => rw [q] at e; cases e
    | some l =>
      rw [q] at e
      cases e
      obtain ⟨v, rfl, r1⟩ := one r
      obtain ⟨p, vs, rfl, h1, hz, r2⟩ := asL_at S r1 q
      exact ⟨p, vs, rfl, .inl (SqL.of h1), fun l hl => fin_lst S r2 hz hl k'⟩
  · cases e
end
end G

end
section
namespace G
open PySem PySem.Spec L2
open PyProof.Rows (envOfC)
variable [Tb]
/-! ### changeable lists -/
section
variable {K : PySem.W.Frag} {mg : Str → Option Value} {m m' : WM} {H H' : Hp} {s : Sto}
theorem Sim.setCel {n : Nat} {a : Addr} {ys : List D} {vs ws : List V} (S : Sim K mg m s H) (hn : m.phi[n]? = some a) (h : H a = some (.lst vs)) (hp : pureL ys = true) (hz : ys.length ≤ sizeLine) (r : RVs K mg m H ys ws) :
    Sim K mg m { s with cel := s.cel.set n ys } (upd H a (.lst ws)) ∧ Stp m H m (upd H a (.lst ws)) := by
  have ha : a ∈ m.phi := List.mem_of_getElem? hn
  have st : Stp m H m (upd H a (.lst ws)) := by
    refine ⟨⟨[], by simp⟩, ⟨[], by simp⟩, rfl, fun b xs hb => ?_, fun b xs hb n1 => ?_, fun b o u hb => ?_, fun b hb => ?_⟩
    · rw [upd_ne (ne_of hb h (by intro z; cases z))]; exact hb
    · rw [upd_ne (fun z => n1 (by rw [z]; exact ha))]; exact hb
    · rw [upd_ne (ne_of hb h (by intro z; cases z))]; exact hb
    · by_cases e : b = a
      · rw [e] at hb; exact (Fr.lstSame hb).elim
      · rw [Fr.up e] at hb; exact hb
  refine ⟨⟨by rw [S.cl]; simp, S.nd, fun k b zs e1 e2 => ?_, fun b hb => ⟨(S.al b hb).1, fun z => (S.al b hb).2 (st.dom b z)⟩, S.ol, fun k p o e1 e2 => ?_, S.on, tabs_up S.tb h⟩, st⟩
  · by_cases hk : k = n
    · subst hk
      rw [hn] at e1
      cases e1
      have hl : k < s.cel.length := by rw [← S.cl]; exact (List.getElem?_eq_some_iff.mp hn).1
      have e3 : (s.cel.set k ys)[k]? = some zs := e2
      rw [List.getElem?_set_self hl] at e3
      cases e3
      exact ⟨hp, hz, ws, upd_same, RVs.mono st.wk _ _ r⟩
    · have e3 : (s.cel.set n ys)[k]? = some zs := e2
      rw [List.getElem?_set_ne (Ne.symm hk)] at e3
      obtain ⟨h0, hz', us, h1, h2⟩ := S.ce k b zs e1 e3
      have hb : b ≠ a := by
        intro z
        subst z
        obtain ⟨hk1, hk2⟩ := List.getElem?_eq_some_iff.mp e1
        obtain ⟨hn1, hn2⟩ := List.getElem?_eq_some_iff.mp hn
        exact hk ((List.getElem_inj S.nd).mp (hk2.trans hn2.symm))
      exact ⟨h0, hz', us, by rw [upd_ne hb]; exact h1, RVs.mono st.wk _ _ h2⟩
  · exact (S.ob k p o e1 e2).keep st.wk fun u h1 r => by rw [upd_ne (ne_of h1 h (fun z => r.lst z))]; exact h1
/-- a new list becomes a changeable one -/
theorem Sim.newCel {H0 : Hp} {m0 : WM} {a : Addr} {l : List D} {vs : List V} (S : Sim K mg m s H) (S2 : Sim K mg { m with av := a :: m.av } s H) (h : H a = some (.lst vs)) (hp : pureL l = true) (hz : l.length ≤ sizeLine) (r : RVs K mg m H l vs) (na : a ∉ m.av)
    (st : Stp m0 H0 m H) (hn : Fr H0 a) (ph : ∃ t, m.phi = m0.phi ++ t ∧ ∀ b ∈ t, Fr H0 b) (nr : RVs K mg { m with av := a :: m.av } H l vs) : Sim K mg { m with phi := m.phi ++ [a] } { s with cel := s.cel ++ [l] } H ∧ Stp m0 H0 { m with phi := m.phi ++ [a] } H := by
  have nphi : a ∉ m.phi := (S2.al a List.mem_cons_self).1
  have sh : ∀ (d : D) (v : V), RV K mg { m with av := a :: m.av } H d v → RV K mg { m with phi := m.phi ++ [a] } H d v := by
    have key : ∀ d : D, (∀ v, RV K mg { m with av := a :: m.av } H d v → RV K mg { m with phi := m.phi ++ [a] } H d v) := fun d => by
      refine D.rec (motive_1 := fun d => ∀ v, RV K mg { m with av := a :: m.av } H d v → RV K mg { m with phi := m.phi ++ [a] } H d v) (motive_2 := fun l => ∀ vs, RVs K mg { m with av := a :: m.av } H l vs → RVs K mg { m with phi := m.phi ++ [a] } H l vs)
        ?_ ?_ ?_ ?_ ?_ ?_ ?_ ?_ ?_ ?_ ?_ ?_ ?_ d
      · intro v h; unfold RV at h ⊢; exact h
      · intro _ v h; unfold RV at h ⊢; exact h
      · intro _ v h; unfold RV at h ⊢; exact h
      · intro _ v h; unfold RV at h ⊢; exact h
      · intro l ih v h
        unfold RV at h ⊢
        obtain ⟨p, us, e, h1, hl, h2⟩ := h
        exact ⟨p, us, e, h1, hl, ih us h2⟩
      · intro l ih v h
        unfold RV at h ⊢
        obtain ⟨p, us, e, h1, n1, n2, hl, h2⟩ := h
        refine ⟨p, us, e, h1, fun z => ?_, fun z => n2 (List.mem_cons_of_mem _ z), hl, ih us h2⟩
        rcases List.mem_append.mp z with z | z
        · exact n1 z
        · exact n2 (by rw [List.mem_singleton.mp z]; exact List.mem_cons_self)
      · intro n v h
        unfold RV at h ⊢
        obtain ⟨p, e, h1⟩ := h
        refine ⟨p, e, ?_⟩
        show (m.phi ++ [a])[n]? = some p
        rw [List.getElem?_append_left (List.getElem?_eq_some_iff.mp h1).1]
        exact h1
      · intro n v h; unfold RV at h ⊢; exact h
      · intro n v h; unfold RV at h ⊢; exact h
      · intro n v h; unfold RV at h ⊢; exact h
      · intro n v h
        unfold RV at h ⊢
        obtain ⟨p, e, hl, q⟩ := h
        refine ⟨p, e, hl, q.imp id fun ⟨q1, n1, n2⟩ => ⟨q1, fun z => ?_, fun z => n2 (List.mem_cons_of_mem _ z)⟩⟩
        rcases List.mem_append.mp z with z | z
        · exact n1 z
        · exact n2 (by rw [List.mem_singleton.mp z]; exact List.mem_cons_self)
      · intro vs h; rw [RVs.nil] at h ⊢; exact h
      · intro d l ihd ihl vs h
        obtain ⟨v, r, e, h1, h2⟩ := RVs.cons.mp h
        exact RVs.cons.mpr ⟨v, r, e, ihd v h1, ihl r h2⟩
    exact fun d v h => key d v h
  have shL : ∀ (ds : List D) (us : List V), RVs K mg { m with av := a :: m.av } H ds us → RVs K mg { m with phi := m.phi ++ [a] } H ds us := by
    intro ds
    induction ds with
    | nil => intro us h; rw [RVs.nil] at h ⊢; exact h
    | cons d ds ih =>
      intro us h
      obtain ⟨v, r, e, h1, h2⟩ := RVs.cons.mp h
      exact RVs.cons.mpr ⟨v, r, e, sh d v h1, ih r h2⟩
  refine ⟨⟨?_, ?_, fun k b zs e1 e2 => ?_, fun b hb => ⟨fun z => ?_, (S.al b hb).2⟩, S.ol, fun k p o e1 e2 => ?_, S.on, S.tb⟩, ?_⟩
  · show (m.phi ++ [a]).length = (s.cel ++ [l]).length
    rw [List.length_append, List.length_append, S.cl]; rfl
  · show (m.phi ++ [a]).Nodup
    exact List.nodup_append.mpr ⟨S.nd, by simp, fun b hb c hc e => by
      rw [List.mem_singleton.mp hc] at e
      exact nphi (e ▸ hb)⟩
  · have e1' : (m.phi ++ [a])[k]? = some b := e1
    have e2' : (s.cel ++ [l])[k]? = some zs := e2
    by_cases hk : k < m.phi.length
    · rw [List.getElem?_append_left hk] at e1'
      rw [List.getElem?_append_left (by rw [← S.cl]; exact hk)] at e2'
      obtain ⟨h0, hz', us, h1, h2⟩ := S2.ce k b zs e1' e2'
      exact ⟨h0, hz', us, h1, shL _ _ h2⟩
    · rw [List.getElem?_append_right (by omega)] at e1'
      rw [List.getElem?_append_right (by rw [← S.cl]; omega), ← S.cl] at e2'
      have hk0 : k - m.phi.length = 0 := by
        have := (List.getElem?_eq_some_iff.mp e1').1
        simp at this
        omega
      rw [hk0] at e1' e2'
      simp at e1' e2'
      subst e1' e2'
      exact ⟨hp, hz, vs, h, shL _ _ nr⟩
  · rcases List.mem_append.mp z with z | z
    · exact (S.al b hb).1 z
    · exact na (by rw [List.mem_singleton.mp z] at hb; exact hb)
  · exact (S2.ob k p o e1 e2).map (fun ds vs _ r => shL ds vs r) fun u h _ => h
  · obtain ⟨t, e, ht⟩ := ph
    refine ⟨⟨t ++ [a], by rw [← List.append_assoc, ← e], fun b hb => ?_⟩, st.psi, st.av, st.tup, fun b xs hb n1 => st.lst b xs hb n1, st.frz, st.dom⟩
    rcases List.mem_append.mp hb with hb | hb
    · exact ht b hb
    · rw [List.mem_singleton.mp hb]; exact hn
end
/-! ### targets -/
abbrev GT := D → Env → Sto → Option (Env × Sto)
def gtName (i : Nat) : GT := fun d env s => some (env.set i (some d), s)
def setCel (s : Sto) (n : Nat) (l : List D) : Sto := { s with cel := s.cel.set n l }
/-- o[i] = d, o a changeable list -/
def putCel (s : Sto) (o i d : D) : Option Sto := match o, i with
  | .cel n, .int k => (s.cel[n]?).bind fun xs => (ixN xs.length k).bind fun j => if d.pure = true then some (setCel s n (xs.set j d)) else none
  | _, _ => none
def gtSub (fo fi : E) : GT := fun d env s => match fo env s with
  | .ok o s1 => (match fi env s1 with
    | .ok i s2 => (putCel s2 o i d).map fun s3 => (env, s3)
    | _ => none)
  | _ => none
def gtTups : List GT → List D → Env → Sto → Option (Env × Sto)
  | [], [], env, s => some (env, s)
  | g :: gs, d :: ds, env, s => (g d env s).bind fun p => gtTups gs ds p.1 p.2
  | _, _, _, _ => none
def gtTup (gs : List GT) : GT := fun d env s => match d with
  | .tup ds => gtTups gs ds env s
  | _ => none
def sAsg (g : GT) (f : E) : SM := fun env s => (f env s).st env fun d s1 => match g d env s1 with
  | some p => .ok .nx p.1 p.2
  | none => .bad
section
variable (K : PySem.W.Frag) (mg : Str → Option Value)
def KontE (m : WM) (H : Hp) (r : Option (Env × Sto)) (Q : L2.St → Hp → Prop) : Prop := ∃ p, r = some p ∧ ∀ m' σ' H', Stp m H m' H' → m'.phi = m.phi → Sim K mg m' p.2 H' → EnvR K mg m' H' p.1 σ' → Q σ' H'
def tGT (g : GT) : TG := fun v σ H Q => ∃ m d env s, Sim K mg m s H ∧ RV K mg m H d v ∧ EnvR K mg m H env σ ∧ KontE K mg m H (g d env s) Q
def tGTs (gs : List GT) : TGs := fun vs σ H Q => ∃ m ds env s, Sim K mg m s H ∧ RVs K mg m H ds vs ∧ EnvR K mg m H env σ ∧ KontE K mg m H (gtTups gs ds env s) Q
end
theorem pureL_set {d : D} (hd : d.pure = true) : ∀ (l : List D) (i : Nat), pureL l = true → pureL (l.set i d) = true
  | [], _, h => h
  | x :: l, 0, h => by
    rw [pureL_cons, Bool.and_eq_true] at h
    rw [List.set_cons_zero, pureL_cons, hd, h.2]; rfl
  | x :: l, i + 1, h => by
    rw [pureL_cons, Bool.and_eq_true] at h
    rw [List.set_cons_succ, pureL_cons, h.1, pureL_set hd l i h.2]; rfl
section
variable {X : Cx} {W : WX} {fr cf fr2 fr3 fr4 : Bool} {e a b c : Expr} {fa fb fc : E} {pos : Pos}
theorem sgt_name {i : Nat} {x : Str} (hN : X.N.Nodup) (hi : X.N[i]? = some x) (hx : Loc X.env.scope x) (hf : X.fn x = true ∨ X.env.scope.names.lookup x = some .local := by first | exact .inl rfl | exact .inr rfl) : PG X (.Name x pos) (tGT X.K X.mg (gtName i)) :=
  PG.imp (pg_name hN hi hx hf) fun v σ H Q ⟨m, d, env, s, S, r, E, p, e, k⟩ => by
    cases e
    exact k m _ H Stp.refl rfl S (E.set i r)
theorem sgt_sub (ho : SE X W fr2 a fa) (hi : SE X W fr3 b fb) (ha : ∀ v, assign (.Subscript a b pos) X.env v = (do
      let ov ← holding [v] (eval a X.env)
      let iv ← holding [v, ov] (eval b X.env)
      standAt pos
      holding [v, ov, iv] (setItem ov iv v)
      release [v, ov, iv] []) := by intro _; rfl) : PG X (.Subscript a b pos) (tGT X.K X.mg (gtSub fa fb)) :=
  PG.imp (pg_sub (seF ho) (seF hi) set_list ha) fun v σ H Q ⟨m, d, env, s, S, r, E, p, e, k⟩ => by
    refine ⟨m, env, s, S, E, ?_⟩
    unfold gtSub at e
    cases qo : fa env s with
    | bad => rw [qo] at e; cases e
    | err x s1 => rw [qo] at e; cases e
    | ok o s1 =>
      rw [qo] at e
      simp only at e
      intro vo m1 H1 t1 t2 t3 t4
      refine ⟨m1, env, s1, t3, E.mono t1.wk, ?_⟩
      cases qi : fb env s1 with
      | bad => rw [qi] at e; cases e
      | err x s2 => rw [qi] at e; cases e
      | ok i s2 =>
        rw [qi] at e
        simp only at e
        intro vi m2 H2 u1 u2 u3 u4
        cases qp : putCel s2 o i d with
        | none => rw [qp] at e; cases e
        | some s3 =>
          rw [qp] at e
          cases e
          cases o with
          | cel n =>
            cases i with
            | int j =>
              obtain ⟨q, ep, hp⟩ := (RV.mono u1.wk _ _ t4.1).cel'
              unfold putCel at qp
              simp only at qp
              cases qx : s2.cel[n]? with
              | none => rw [qx] at qp; cases qp
              | some xs =>
                rw [qx, Option.bind_some] at qp
                obtain ⟨h0, hz, vs, h1, h2⟩ := u3.ce n q xs hp qx
                cases q2 : ixN xs.length j with
                | none => rw [q2] at qp; cases qp
                | some jj =>
                  rw [q2, Option.bind_some] at qp
                  split at qp
                  · rename_i hd
                    cases qp
                    refine ⟨q, vs, j, jj, ep, u4.1.int', h1, by rw [h2.length]; exact q2, ?_⟩
                    obtain ⟨S3, st3⟩ := u3.setCel hp h1 (pureL_set hd xs jj h0) (by rw [List.length_set]; exact hz) (h2.set jj (RV.mono (t1.trans u1).wk _ _ r))
                    exact k m2 σ _ ((t1.trans u1).trans st3) (u2.trans t2) S3 (((E.mono t1.wk).mono u1.wk).mono st3.wk)
                  · cases qp
            | _ => cases qp
          | _ => cases qp
theorem sgts_nil : PGs X [] (tGTs X.K X.mg []) := PGs.imp pgs_nil fun vs σ H Q ⟨m, ds, env, s, S, r, E, p, e, k⟩ => by
  cases ds with
  | nil =>
    cases e
    exact ⟨RVs.nil.mp r, k m σ H Stp.refl rfl S E⟩
  | cons d ds => cases e
theorem sgts_cons {es : List Expr} {g : GT} {gs : List GT} (h1 : PG X e (tGT X.K X.mg g)) (h2 : PGs X es (tGTs X.K X.mg gs)) (hs : (assignEach (e :: es) X.env).map (·.2) = assign e X.env :: (assignEach es X.env).map (·.2) := by rfl) : PGs X (e :: es) (tGTs X.K X.mg (g :: gs)) :=
  PGs.imp (pgs_cons h1 h2 hs) fun vs σ H Q ⟨m, ds, env, s, S, r, E, p, e, k⟩ => by
    cases ds with
    | nil => cases e
    | cons d ds =>
      obtain ⟨v, w, e1, r1, r2⟩ := RVs.cons.mp r
      refine ⟨v, w, e1, m, d, env, s, S, r1, E, ?_⟩
      unfold gtTups at e
      cases q : g d env s with
      | none => rw [q] at e; cases e
      | some p1 =>
        rw [q, Option.bind_some] at e
        exact ⟨p1, rfl, fun m' σ' H' x1 x2 x3 x4 => ⟨m', ds, p1.1, p1.2, x3, RVs.mono x1.wk _ _ r2, x4, p, e, fun m2 σ2 H2 y1 y2 y3 y4 => k m2 σ2 H2 (x1.trans y1) (y2.trans x2) y3 y4⟩⟩
theorem gtTups_len : ∀ {gs : List GT} {ds : List D} {env : Env} {s : Sto} {p : Env × Sto}, gtTups gs ds env s = some p → ds.length = gs.length
  | [], [], _, _, _, _ => rfl
  | [], _ :: _, _, _, _, h => by cases h
  | _ :: _, [], _, _, _, h => by cases h
  | g :: gs, d :: ds, env, s, p, h => by
    unfold gtTups at h
    cases q : g d env s with
    | none => rw [q] at h; cases h
    | some p1 =>
      rw [q, Option.bind_some] at h
      rw [List.length_cons, List.length_cons, gtTups_len h]
theorem sgt_tup {es : List Expr} {k : Nat} {gs : List GT} {n : Nat} (hc : X.calm = true) (h : PGs X es (tGTs X.K X.mg gs)) (hn : (assignEach es X.env).length = n := by rfl) (hl : gs.length = n := by rfl) (hst : (assignEach es X.env).findIdx? (·.1) = none := by rfl) : PG X (.Tuple es k pos) (tGT X.K X.mg (gtTup gs)) :=
  PG.imp (pg_tup hc h hn hst) fun v σ H Q ⟨m, d, env, s, S, r, E, p, e, k⟩ => by
    cases d with
    | tup ds =>
      obtain ⟨a, vs, e1, h1, hz, r1⟩ := r.tup'
      exact ⟨a, vs, e1, SqT.of h1, by rw [r1.length, gtTups_len (show gtTups gs ds env s = some p from e), hl], m, ds, env, s, S, r1, E, p, e, k⟩
    | _ => cases e
theorem ss_asgG {tg : Expr} {g : GT} (he : SE X W fr2 e fa) (hg : PG X tg (tGT X.K X.mg g)) (hs : swapsWithSole [tg] e pos.line X.env = pure false := by rfl) (hw : swappedStores [tg] e X.env = pure none := by rfl) (h1 : (assignEach [tg] X.env).map (·.2) = [assign tg X.env] := by rfl) :
    SS X W fr cf (.Assign [tg] e pos) (sAsg g fa) := PS.imp (ps_asg (seF he) hg hs hw h1) fun D σ H ⟨m, env, s, S, E, k⟩ => by
  refine ⟨m, env, s, S, E, (KontS.st k E).imp fun x H1 ⟨d, s1, m1, e1, A, E1, k1⟩ => ⟨m1, d, env, s1, A.sim, A.rel.1, E1, ?_⟩⟩
  cases q : g d env s1 with
  | none => rw [q] at k1; exact k1.elim
  | some p =>
    rw [q] at k1
    exact ⟨p, rfl, fun m' σ' H' x1 x2 x3 x4 => k1 m' σ' H' x1 (fun _ => x2) x3 x4⟩
/-! ### name = a new list that will be changed -/
def newCel (s : Sto) (l : List D) : Sto := { s with cel := s.cel ++ [l] }
def sCel (i : Nat) (f : E) : SM := fun env s => (f env s).st env fun d s1 => match d with
  | .lst l => if pureL l = true then .ok .nx (env.set i (some (.cel s1.cel.length))) (newCel s1 l) else .bad
  | _ => .bad
theorem ss_cel {i : Nat} {x : Str} {pos' : Pos} (hN : X.N.Nodup) (hi : X.N[i]? = some x) (hx : Loc X.env.scope x) (he : SE X W true e fa) (hs : swapsWith e (some (.Name x pos')) pos.line X.env = pure false := by rfl) (hf : X.fn x = true ∨ X.env.scope.names.lookup x = some .local := by first | exact .inl rfl | exact .inr rfl) :
    SS X W fr true (.Assign [.Name x pos'] e pos) (sCel i fa) := PS.imp (ps_set hN hi hx he hs hf) fun D σ H ⟨m, env, s, S, E, k⟩ => by
  refine ⟨m, env, s, S, E, (KontS.st k E).imp fun x H1 ⟨d, s1, m1, e1, A, E1, k1⟩ => ?_⟩
  cases d with
  | lst l =>
    simp only at k1
    split at k1
    · rename_i hp
      obtain ⟨a, vs, ex, h1, n1, n2, hz, r1⟩ := A.rel.1.lst'
      subst ex
      obtain ⟨hn, S2, vs2, h2, r2⟩ := A.rel.2 rfl l a rfl rfl
      rw [h1] at h2
      cases h2
      obtain ⟨S3, st3⟩ := A.sim.newCel S2 h1 hp hz r1 n2 A.st hn ⟨[], by rw [A.ph]; simp, by simp⟩ r2
      have k2 : KontS X.K X.mg W fr true m1 H1 (.ok .nx (env.set i (some (.cel s1.cel.length))) (newCel s1 l)) D := k1
      have k3 : KontS X.K X.mg W fr true m H ((fa env s).st env fun d s1 => match d with | .lst l => if pureL l = true then .ok .nx (env.set i (some (.cel s1.cel.length))) (newCel s1 l) else .bad | _ => .bad) D := k
      rw [e1] at k3
      simp only [Res.st_ok, if_pos hp] at k3
      refine k3 _ _ H1 st3 (fun z => nomatch z) S3 ((E.mono st3.wk).set i ?_)
      unfold RV
      refine ⟨a, rfl, ?_⟩
      show (m1.phi ++ [a])[s1.cel.length]? = some a
      rw [← A.sim.cl, List.getElem?_append_right (Nat.le_refl _), Nat.sub_self]
      rfl
    · exact k1.elim
  | _ => exact k1.elim
end
end G

end
section
namespace G
open PySem PySem.Spec L2
open PyProof.Rows (envOfC)
variable [Tb]
/-! ### a def that makes changeable lists -/
section
variable {fr : Bool} {n k : Nat}
theorem def_okC {P : Program} {w : World} {K : PySem.W.Frag} {mg : Str → Option Value} {base : Heap} {x qual : Str} {params : Arguments} {body : List Stmt} {scope : Scope} {f : Addr} {fd : FuncData} {N ps : List Str} {g : SM}
    (F : FunD K x qual params body scope [] [] f fd) (S : FnScope N ps scope) (hn : ps.length = n)
    (hbody : ∀ (cdv : Value) (A : Around) (outer : List PySem.Env) (s : Shared) (H : Hp) (E : XK), Room k (A.deeper (envOfC qual scope s.heap.objs.size f cdv)) → SSs (cxOf (L2.CX P w) P w K mg base N qual scope f cdv A outer s H E) (fun c d _ H => E c d H) false true body g) :
    FnOk P w K mg base (L2.CX P w) (k + 1) f fd ps (spD K mg n false (defC N.length g)) := by
  refine F.ok S (fun vs H Q E ⟨m, ds, s, _, r, hl, _⟩ => by rw [r.length, hl, hn]) fun cdv A outer s H vs Q E hr hsp => ⟨_, hbody cdv A outer s H E hr, ?_⟩
  obtain ⟨m, ds, s0, S0, r, hl, kk⟩ := hsp
  refine ⟨m, _, s0, S0, startE_ok r, ?_⟩
  have kk' : KontG K mg (RD K mg false H) E m H (match g (startE N.length ds) s0 with | .ok (.rt d) _ s' => .ok (fz s0.cel.length s'.cel d) (cut s0.cel.length s') | .ok .nx _ s' => .ok .non (cut s0.cel.length s') | .err x _ s' => .err x (cut s0.cel.length s') | _ => .bad) Q := kk
  revert kk'
  cases g (startE N.length ds) s0 with
  | ok fl env' s' =>
    cases fl with
    | rt d =>
      intro k m' σ' H' x1 x2 x3 x4 v x5
      obtain ⟨t, e, ht⟩ := x1.phi
      exact k v { m' with phi := m.phi } H' x1.cut rfl (x3.cut e S0.cl) ⟨RV.fz x3 e S0.cl d v x5.1, fun z => nomatch z⟩
    | nx =>
      intro k m' σ' H' x1 x2 x3 x4
      obtain ⟨t, e, ht⟩ := x1.phi
      exact k .non { m' with phi := m.phi } H' x1.cut rfl (x3.cut e S0.cl) ⟨RV.non, fun z => nomatch z⟩
    | bk => exact fun k => k.elim
    | ct => exact fun k => k.elim
  | err x env' s' =>
    intro k c dx m' σ' H' x1 x2 x3 x4 x5
    obtain ⟨t, e, ht⟩ := x1.phi
    exact k c dx { m' with phi := m.phi } H' x1.cut rfl (x3.cut e S0.cl) x5
  | bad => exact fun k => k.elim
end
/-! ### methods of built-in types -/
abbrev GM := Sto → D → List D → Option (D × Sto)
def OkM (K : PySem.W.Frag) (mg : Str → Option Value) (T : String) (r : V → List V → Hp → VK → Prop) (g : GM) : Prop := ∀ m s H x xs dx ds p (Q : VK), Sim K mg m s H → RV K mg m H dx x → RVs K mg m H ds xs → g s dx ds = some p →
  (∀ v H', Stp m H m H' → Sim K mg m p.2 H' → RV K mg m H' p.1 v → Q v H') → r x xs H Q
def tyD (T : String) : D → Bool
  | .str _ => T == "str"
  | .lst _ => T == "list"
  | .cel _ => T == "list"
  | _ => false
def resM : Option (D × Sto) → Res D
  | some p => .ok p.1 p.2
  | none => .bad
def eMeth (T : String) (g : GM) (fo : E) (gl : EL) : E := fun env s => (fo env s).bind fun o s1 => if tyD T o = true then (gl env s1).bind fun ds s2 => resM (g s2 o ds) else .bad
section
variable {X : Cx} {W : WX} {fr cf fr2 fr3 fr4 : Bool} {e a b c o : Expr} {es : List Expr} {fa fb fc fo : E} {gl : EL} {pos apos cpos : Pos} {n : Nat} {T id : String} {name : Str} {r : V → List V → Hp → VK → Prop} {g : GM}
theorem tyV_of {K : PySem.W.Frag} {mg : Str → Option Value} {m : WM} {H : Hp} {s : Sto} (S : Sim K mg m s H) {d : D} {v : V} (rv : RV K mg m H d v) (h : tyD T d = true) : tyV K T v H := by
  cases d with
  | str x => rw [rv.str']; exact beq_iff_eq.mp h
  | lst l =>
    obtain ⟨p, vs, e, h1, _⟩ := rv.lst'
    rw [e]
    exact .inl ⟨beq_iff_eq.mp h, vs, SqL.of h1⟩
  | cel i =>
    obtain ⟨p, e, h1⟩ := rv.cel'
    have hl := S.celLt rv
    obtain ⟨_, _, vs, h2, _⟩ := S.ce i p _ h1 (List.getElem?_eq_getElem hl)
    rw [e]
    exact .inl ⟨beq_iff_eq.mp h, vs, SqL.of h2⟩
  | _ => cases h
theorem se_bm (pa : PlainAttrs T) (slot : Slot T name id) (hty : typeOf (.builtin id) = pure (.type "method_descriptor")) (hm : MtR X id r) (hg : OkM X.K X.mg T r g) (ho : SE X W fr2 o fo) (ha : SA X W n (e :: es) gl)
    (hbase : attributeBase o name X.env (eval o X.env) = eval o X.env := by rfl)
    (hfew : ((backTo cpos (starEach (e :: es) X.env)).all (fun x => !x.1) && (backToKw cpos (keywordEach [] X.env)).all (fun x => x.1.isSome)
      && decide ((e :: es).length + ([] : List Keyword).length + (if ([] : List Keyword).isEmpty then 0 else 1) < 30)) = true := by rfl)
    (hline : (apos.endLine == cpos.line) = true := by rfl) (hs : starEach (e :: es) X.env = (false, eval e X.env) :: starEach es X.env := by rfl) (hplain : (backTo cpos (starEach es X.env)).any (·.1) = false := by rfl) :
    SE X W false (.Call (.Attribute o name apos) (e :: es) [] cpos) (eMeth T g fo gl) := PE.imp (pe_bm pa slot hty hm (seF ho) ha hbase hfew hline hs hplain) fun σ H Q ⟨m, env, s, S, E, k⟩ => by
  refine ⟨m, env, s, S, E, (KontG.bind (R := RD X.K X.mg false H) k).imp fun x H1 ⟨dx, s1, m1, e1, A, k1⟩ => ?_⟩
  split at k1
  · rename_i q
    refine ⟨tyV_of A.sim A.rel.1 q, m1, env, s1, A.sim, E.mono A.st.wk, (KontG.bind (k1.moveD A.st A.ph)).imp fun xs H2 ⟨dxs, s2, m2, e2, B, k2⟩ => ?_⟩
    cases q2 : g s2 dx dxs with
    | none => rw [q2] at k2; exact k2.elim
    | some p =>
      rw [q2] at k2
      exact hg m2 s2 H2 x xs dx dxs p Q B.sim (RV.mono B.st.wk _ _ A.rel.1) B.rel.1 q2 fun v H' st S' r' => k2 v m2 H' (B.st.trans st) B.ph S' ⟨r', fun z => nomatch z⟩
  · exact k1.elim
theorem se_bm0 (pa : PlainAttrs T) (slot : Slot T name id) (hty : typeOf (.builtin id) = pure (.type "method_descriptor")) (hm : MtR X id r) (hg : OkM X.K X.mg T r g) (ho : SE X W fr2 o fo)
    (hbase : attributeBase o name X.env (eval o X.env) = eval o X.env := by rfl) (hline : (apos.endLine == cpos.line) = true := by rfl) :
    SE X W false (.Call (.Attribute o name apos) [] [] cpos) (eMeth T g fo lNil) := PE.imp (pe_bm0 pa slot hty hm (seF ho) hbase hline) fun σ H Q ⟨m, env, s, S, E, k⟩ => by
  refine ⟨m, env, s, S, E, (KontG.bind (R := RD X.K X.mg false H) k).imp fun x H1 ⟨dx, s1, m1, e1, A, k1⟩ => ?_⟩
  split at k1
  · rename_i q
    refine ⟨tyV_of A.sim A.rel.1 q, ?_⟩
    have k2 : KontG X.K X.mg (RD X.K X.mg false H) (fun c d H' => W c d σ H') m H (resM (g s1 dx [])) Q := k1
    cases q2 : g s1 dx [] with
    | none => rw [q2] at k2; exact k2.elim
    | some p =>
      rw [q2] at k2
      exact hg m1 s1 H1 x [] dx [] p Q A.sim A.rel.1 (RVs.nil.mpr rfl) q2 fun v H' st S' r' => k2 v m1 H' (A.st.trans st) A.ph S' ⟨r', fun z => nomatch z⟩
  · exact k1.elim
end
/-! list methods on changeable lists -/
def mAppend : GM := fun s o ds => match o, ds with
  | .cel n, [d] => (s.cel[n]?).bind fun xs => if d.pure = true ∧ xs.length < 16777216 then some (.non, setCel s n (xs ++ [d])) else none
  | _, _ => none
def mPop0 : GM := fun s o ds => match o, ds with
  | .cel n, [.int 0] => (s.cel[n]?).bind fun xs => match xs with
    | d :: r => some (d, setCel s n r)
    | [] => none
  | _, _ => none
theorem pureL_append : ∀ (l r : List D), pureL (l ++ r) = (pureL l && pureL r)
  | [], r => by simp [pureL]
  | d :: l, r => by rw [List.cons_append, pureL_cons, pureL_cons, pureL_append l r, Bool.and_assoc]
section
variable {K : PySem.W.Frag} {mg : Str → Option Value}
theorem ok_append : OkM K mg "list" rAppend mAppend := by
  intro m s H x xs dx ds p Q S rx rs e k
  unfold mAppend at e
  split at e
  · rename_i n d
    obtain ⟨a, ea, hp⟩ := rx.cel'
    obtain ⟨v, ev, r1⟩ := one rs
    cases q : s.cel[n]? with
    | none => rw [q] at e; cases e
    | some l =>
      rw [q, Option.bind_some] at e
      obtain ⟨h0, hz, vs, h1, h2⟩ := S.ce n a l hp q
      split at e
      · rename_i h
        cases e
        refine ⟨a, vs, v, ea, ev, h1, by rw [h2.length, size_lit]; exact h.2, ?_⟩
        obtain ⟨S3, st3⟩ := S.setCel (ys := l ++ [d]) hp h1 (by rw [pureL_append, h0, pureL_cons, h.1]; rfl) (by rw [List.length_append, size_lit]; simp; omega) (h2.append (RVs.mk r1 (RVs.nil.mpr rfl)))
        exact k .non _ st3 S3 RV.non
      · cases e
  · cases e
theorem ok_pop0 : OkM K mg "list" rPopAt mPop0 := by
  intro m s H x xs dx ds p Q S rx rs e k
  unfold mPop0 at e
  split at e
  · rename_i n
    obtain ⟨a, ea, hp⟩ := rx.cel'
    obtain ⟨v, ev, r1⟩ := one rs
    cases q : s.cel[n]? with
    | none => rw [q] at e; cases e
    | some l =>
      rw [q, Option.bind_some] at e
      obtain ⟨h0, hz, vs, h1, h2⟩ := S.ce n a l hp q
      cases l with
      | nil => cases e
      | cons d l =>
        cases e
        obtain ⟨w, ws, e2, r2, r3⟩ := RVs.cons.mp h2
        subst e2
        rw [pureL_cons, Bool.and_eq_true] at h0
        refine ⟨a, w :: ws, 0, 0, w, ea, by rw [ev, r1.int'], h1, by decide, by decide, ?_, rfl, ?_⟩
        · exact (ixN_seq (n := (w :: ws).length) (i := 0) (j := 0) (by unfold ixN; simp)).1
        · obtain ⟨S3, st3⟩ := S.setCel (ys := l) (ws := ws) hp h1 h0.2 (by rw [List.length_cons] at hz; omega) r3
          exact k w _ st3 S3 (RV.mono st3.wk _ _ r2)
  · cases e
end
/-! ### items and slices -/
def gIx : G2 := fun s o i => match i with
  | .int k => (match o with
    | .tup l => atI l k
    | .scr l => (atI l k).map .int
    | .str z => if z.length ≤ 16777216 then (atI z.cps.toList k).map fun c => .str ⟨#[c]⟩ else none
    | d => (asL s d).bind fun l => atI l k)
  | _ => none
theorem RVs.atI {K : PySem.W.Frag} {mg : Str → Option Value} {m : WM} {H : Hp} {ds : List D} {vs : List V} {k : Int} {d : D} (h : RVs K mg m H ds vs) (e : L2.atI ds k = some d) : ∃ v, L2.atI vs k = some v ∧ RV K mg m H d v := by
  unfold L2.atI at e ⊢
  rw [h.length]
  cases q : ixN ds.length k with
  | none => rw [q] at e; cases e
  | some j =>
    rw [q] at e
    exact h.get e
theorem ok_ix {K : PySem.W.Frag} {mg : Str → Option Value} : OkOp K mg false (rIx K) gIx := by
  intro m s H x y dx dy d Q S rx ry e k
  unfold gIx at e
  split at e
  · rename_i j
    have hy := ry.int'
    subst hy
    have gen : ∀ (p : Addr) (vs : List V) (l : List D), x = .ref p → (SqL K H p vs ∨ SqT K H p vs) → RVs K mg m H l vs → L2.atI l j = some d → rIx K x (.int j) H Q := by
      intro p vs l ex hq r ea
      obtain ⟨v, ev, rv⟩ := r.atI ea
      have fin := k v H Grw.refl rv fun z => nomatch z
      rcases hq with hq | hq
      · exact .inl ⟨p, vs, j, v, ex, rfl, hq, ev, fin⟩
      · exact .inr (.inl ⟨p, vs, j, v, ex, rfl, hq, ev, fin⟩)
    split at e
    · obtain ⟨p, vs, ex, h1, _, r⟩ := rx.tup'
      exact gen p vs _ ex (.inr (SqT.of h1)) r e
    · rename_i l
      unfold RV at rx
      obtain ⟨p, ex, _, h1⟩ := rx
      have ha : ∃ i, L2.atI l j = some i ∧ d = .int i := by
        cases q : L2.atI l j with
        | none => rw [q] at e; cases e
        | some i => rw [q] at e; cases e; exact ⟨i, rfl, rfl⟩
      obtain ⟨i, hi, ed⟩ := ha
      subst ed
      have hv : L2.atI (l.map V.int) j = some (.int i) := by
        unfold L2.atI at hi ⊢
        rw [List.length_map]
        cases q : ixN l.length j with
        | none => rw [q] at hi; cases hi
        | some n =>
          rw [q, Option.bind_some] at hi
          rw [Option.bind_some, List.getElem?_map, hi]
          rfl
      exact .inl ⟨p, _, j, .int i, ex, rfl, (ScrAt.sq' h1), hv, k _ H Grw.refl RV.int fun z => nomatch z⟩
    · rename_i z
      split at e
      · rename_i hz
        cases q : L2.atI z.cps.toList j with
        | none => rw [q] at e; cases e
        | some c =>
          rw [q] at e
          cases e
          exact .inr (.inr ⟨z, j, c, rx.str', rfl, by rw [size_lit]; exact hz, q, k _ H Grw.refl RV.str fun z => nomatch z⟩)
      · cases e
    · rename_i dd _ _ _
      cases q : asL s dx with
      | none => rw [q] at e; cases e
      | some l =>
        rw [q] at e
        obtain ⟨p, vs, ex, h1, _, r⟩ := asL_at S rx q
        exact gen p vs l ex (.inl (SqL.of h1)) r e
  · cases e
section
variable {X : Cx} {W : WX} {fr cf fr2 fr3 fr4 : Bool} {e a b c : Expr} {fa fb fc : E} {pos p2 : Pos}
theorem se_ix (ha : SE X W fr2 a fa) (hb : SE X W fr3 b fb) (hs : PlainIx b) : SE X W false (.Subscript a b pos) (eOp gIx fa fb) := PE.imp (pe_ix ix_seq (seF ha) (seF hb) hs) fun σ H Q ⟨m, env, s, S, E, k⟩ => by
  refine use2 S E k fun x y m2 H2 s2 dx dy _ _ S2 E2 rx ry k2 => ?_
  obtain ⟨d, e, q⟩ := fin_of S2 k2
  exact ok_ix m2 s2 H2 x y dx dy d Q S2 rx ry e q
/-- a slice's part -/
abbrev EO := Env → Sto → Res (Option Int)
def oNone : EO := fun _ s => .ok none s
def asI : D → Option Int
  | .int i => some i
  | _ => none
def oSome (f : E) : EO := fun env s => (f env s).bind fun d s1 => Res.of s1 ((asI d).map some)
def tO (K : PySem.W.Frag) (mg : Str → Option Value) (W : WX) (g : EO) : TO := fun σ H Q => ∃ m env s, Sim K mg m s H ∧ EnvR K mg m H env σ ∧ KontG K mg (fun _ _ _ a b => a = b) (fun c d H' => W c d σ H') m H (g env s) Q
theorem PO.imp {e : Option Expr} {t t' : TO} (h : PO X e t) (i : ∀ σ H Q, t' σ H Q → t σ H Q) : PO X e t' := ⟨fun pins s σ H Q I q => h.run pins s σ H Q I (i σ H Q q)⟩
theorem so_none : PO X none (tO X.K X.mg W oNone) := PO.imp po_none fun σ H Q ⟨m, env, s, S, E, k⟩ => k.ok S rfl
theorem so_some (h : SE X W fr2 e fa) : PO X (some e) (tO X.K X.mg W (oSome fa)) := PO.imp (po_some (seF h)) fun σ H Q ⟨m, env, s, S, E, k⟩ => by
  refine ⟨m, env, s, S, E, (KontG.bind (R := RD X.K X.mg false H) k).imp fun x H1 ⟨dx, s1, m1, e1, A, k1⟩ => ?_⟩
  obtain ⟨c, ec, k2⟩ := k1.of
  cases dx with
  | int i =>
    cases ec
    exact ⟨i, A.rel.1.int', (k2.move A.st A.ph fun _ _ _ _ _ z => z).ok A.sim rfl⟩
  | _ => cases ec
def cutD (l : List D) (lo hi : Option Int) : List D := (l.drop (HT.sIx l.length 0 lo)).take (HT.sIx l.length l.length hi - HT.sIx l.length 0 lo)
def gSl (s : Sto) (d : D) (lo hi : Option Int) : Option D := match d with
  | .tup l => some (.tup (cutD l lo hi))
  | .str z => if z.length ≤ 16777216 then some (.str (cutS z lo hi)) else none
  | d => (asL s d).map fun l => .lst (cutD l lo hi)
def eSl (fa : E) (lo hi : EO) : E := fun env s => (fa env s).bind fun x s1 => (lo env s1).bind fun l s2 => (hi env s2).bind fun h s3 => Res.of s3 (gSl s3 x l h)
abbrev rSlAll (K : PySem.W.Frag) : V → Option Int → Option Int → Hp → VK → Prop := fun x lo hi H Q => rSlL K x lo hi H Q ∨ rSlA K x lo hi H Q ∨ rSlS x lo hi H Q
theorem sl_all : SlR X (rSlAll X.K) := SlR.or sl_list (SlR.or sl_tupA sl_str)
theorem RVs.cut {K : PySem.W.Frag} {mg : Str → Option Value} {m : WM} {H : Hp} {ds : List D} {vs : List V} (h : RVs K mg m H ds vs) (lo hi : Option Int) : RVs K mg m H (cutD ds lo hi) (cutV vs lo hi) := by
  unfold cutD cutV
  rw [h.length]
  exact (h.drop _).take _
theorem cutD_len (l : List D) (lo hi : Option Int) : (cutD l lo hi).length ≤ l.length := by
  unfold cutD
  rw [List.length_take, List.length_drop]
  omega
theorem ok_sl {K : PySem.W.Frag} {mg : Str → Option Value} {m : WM} {s : Sto} {H : Hp} {x : V} {dx d : D} {lo hi : Option Int} {Q : VK} (S : Sim K mg m s H) (rx : RV K mg m H dx x) (e : gSl s dx lo hi = some d)
    (k : ∀ v H', Grw H H' → RV K mg m H' d v → (∀ l, d = .lst l → NewL K mg m H H' l v) → Q v H') : rSlAll K x lo hi H Q := by
  unfold gSl at e
  split at e
  · rename_i l
    cases e
    obtain ⟨p, vs, ex, h1, hz, r⟩ := rx.tup'
    have rc := r.cut lo hi
    refine .inr (.inl ⟨p, vs, ex, SqT.of h1, fun hw => ?_, fun _ q hq => fin_tup rc (Nat.le_trans (cutD_len _ _ _) hz) hq k⟩)
    have el : cutD l lo hi = l := by
      unfold cutD
      rw [r.length] at hw
      rw [hw.1, hw.2, List.drop_zero, Nat.sub_zero, List.take_length]
    rw [el] at k
    rw [← ex]
    exact k x H Grw.refl rx fun _ z => nomatch z
  · split at e
    · rename_i h
      cases e
      exact .inr (.inr ⟨_, rx.str', by rw [size_lit]; exact h, fin_sc RV.str (fun _ z => nomatch z) k⟩)
    · cases e
  · cases q : asL s dx with
    | none => rw [q] at e; cases e
    | some l =>
      rw [q] at e
      cases e
      obtain ⟨p, vs, ex, h1, hz, r⟩ := asL_at S rx q
      exact .inl ⟨p, vs, ex, SqL.of h1, fun t ht => fin_lst S (r.cut lo hi) (Nat.le_trans (cutD_len _ _ _) hz) ht k⟩
theorem se_sl {lo hi : Option Expr} {gl gh : EO} (he : SE X W fr2 e fa) (hl : PO X lo (tO X.K X.mg W gl)) (hh : PO X hi (tO X.K X.mg W gh)) : SE X W true (.Subscript e (.Slice lo hi none p2) pos) (eSl fa gl gh) := PE.imp (pe_slice sl_all (seF he) hl hh) fun σ H Q ⟨m, env, s, S, E, k⟩ => by
  refine ⟨m, env, s, S, E, (KontG.bind (R := RD X.K X.mg false H) k).imp fun x H1 ⟨dx, s1, m1, e1, A, k1⟩ => ?_⟩
  refine ⟨m1, env, s1, A.sim, E.mono A.st.wk, (KontG.bind (k1.moveD A.st A.ph)).imp fun l H2 ⟨dl, s2, m2, e2, B, k2⟩ => ?_⟩
  refine ⟨m2, env, s2, B.sim, (E.mono A.st.wk).mono B.st.wk, (KontG.bind (k2.moveD B.st B.ph)).imp fun h H3 ⟨dh, s3, m3, e3, C, k3⟩ => ?_⟩
  have er := B.rel
  have er2 := C.rel
  subst er er2
  obtain ⟨d, ed, q⟩ := fin_of C.sim (k3.moveD C.st C.ph)
  exact ok_sl C.sim (RV.mono C.st.wk _ _ (RV.mono B.st.wk _ _ A.rel.1)) ed fun v H' g r f => q v H' g r fun _ => f
end
end G

end
section
namespace PySem
open Sem (wp)
open AutoSeq1 (wpAny_loadPart')
theorem G_enum_newT (l : Addr) (items : Array Value) (n : Nat) (dct : Option Addr) (sl : Array (Option Value)) :
    Meets (Builtin.«enumerate.__new__» ⟨[.type "enumerate", .ref l], []⟩) (fun _ R s => s.heap.get? l = some { cls := .type "tuple", dict := dct, data := .seq items n, slots := sl } ∧
      R (.ok (.ret (.ref (s.heap.push { cls := .type "tuple_iterator", data := .fields #[.ref l, .int 0 0] }).objs.size)))
        { s with heap := (s.heap.push { cls := .type "tuple_iterator", data := .fields #[.ref l, .int 0 0] }).push { cls := .type "enumerate", data := .fields #[.none, .bool false, .ref s.heap.objs.size, rawInt 0, .none, .none] } }) :=
  .of_wp fun prog w A R s h => by
    obtain ⟨hp, g, d, tk, os⟩ := s; obtain ⟨hl, h⟩ := h
    have hsub := sub_enumerate
    have hL : Heap.IsTuple (Shared.heap ⟨hp, g, d, tk, os⟩) l items := ⟨_, hl, rfl, n, rfl⟩
    wp_walk using wpAny_loadPart' hl
    refine wpAny_stack_any fun st => wpAny_pure ?_
    split
    · rename_i c _ _ _ _ _
      cases (c == Value.type "enumerate")
      · wp_walk using wpAny_loadPart' hl, wpAny_pyIter_tuple hL
        exact ⟨_, rfl, h⟩
      · wp_walk using wpAny_loadPart' hl, wpAny_pyIter_tuple hL
        exact ⟨_, rfl, h⟩
    · wp_walk using wpAny_loadPart' hl, wpAny_pyIter_tuple hL
      exact ⟨_, rfl, h⟩
theorem G_call_enumT {prog : Program} {w : World} {A : Around} {E : Value → Shared → Prop} {s : Shared} {l : Addr} {items : Array Value} {Q : Value → Shared → Prop} (hL : s.heap.IsTuple l items)
    (h : ∀ h', IsEnum h' (s.heap.objs.size + 1) s.heap.objs.size 0 .none → h'.IsTupleIter s.heap.objs.size l 0 → h'.objs.size = s.heap.objs.size + 2 →
      (∀ b o, s.heap.get? b = some o → h'.get? b = some o) → Q (.ref (s.heap.objs.size + 1)) { s with heap := h' }) :
    wpAny (model prog w) A (call (.type "enumerate") [.ref l]) Q E s := by
  obtain ⟨⟨c, dct, dt, sl⟩, hl, hc, n, hd⟩ := hL
  replace hc : c = .type "tuple" := hc
  replace hd : dt = .seq items n := hd
  subst hc hd
  refine callType_new F.called_enumerate (by decide) (F.typeCall_enumerate_1 _) (F.newCall_enumerate_1 _) (fun obj => F.args_object_init_2 obj _) F.entry_enumerate_new
    (G_enum_newT l items n dct sl) ⟨hl, ?_⟩
  have hz : (s.heap.push { cls := .type "tuple_iterator", data := .fields #[.ref l, .int 0 0] }).objs.size = s.heap.objs.size + 1 := Heap.size_push ..
  show _ ∧ _
  rw [hz]
  have he : IsEnum ((s.heap.push { cls := .type "tuple_iterator", data := .fields #[.ref l, .int 0 0] }).push { cls := .type "enumerate", data := .fields #[.none, .bool false, .ref s.heap.objs.size, rawInt 0, .none, .none] }) (s.heap.objs.size + 1) s.heap.objs.size 0 .none := by
    have := Heap.get?_push_size (s.heap.push { cls := .type "tuple_iterator", data := .fields #[.ref l, .int 0 0] }) (o := { cls := .type "enumerate", data := .fields #[.none, .bool false, .ref s.heap.objs.size, rawInt 0, .none, .none] }) rfl
    rw [hz] at this; exact this
  refine ⟨⟨_, he, rfl⟩, h _ he ⟨_, Heap.get?_push_of_some _ (Heap.get?_push_size _ rfl), rfl, rfl⟩ (by rw [Heap.size_push, hz]) fun b o x => Heap.get?_push_of_some _ (Heap.get?_push_of_some _ x)⟩
end PySem

namespace G
open PySem PySem.Spec L2
variable [Tb]
/-! ### enumerate(tuple) -/
def IteT (K : PySem.W.Frag) (a : Addr) : It :=
  ⟨fun i H => ∃ (xs : List V) (x : V), SqT K H a xs ∧ xs[i]? = some x, fun i H v H' => ∃ T x, v = .ref T ∧ H T = none ∧ H' = upd H T (.tup [.int (i : Nat), x]) ∧ ∀ xs, SqT K H a xs → xs[i]? = some x, fun i H => ∃ xs : List V, SqT K H a xs ∧ xs.length = i⟩
theorem turn_enumT {P : Program} {w : World} {K : PySem.W.Frag} {elts : List Expr} {kk : Nat} {tpos : Pos} (a e it : Addr) (hai : a ≠ it) :
    Turn P w K (.Tuple elts kk tpos) (IteT K a) [e, it] e (fun i h => (∃ old, IsEnum h e it ((i : Nat) : Int) old) ∧ h.IsTupleIter it a i ∧ e ≠ it ∧ e ≠ a) where
  mem := by simp
  obj := fun i h st b hb => by
    obtain ⟨⟨old, he⟩, ⟨o, ho, hc, hd⟩, _⟩ := st
    have e' : b = e ∨ b = it := by simpa using hb
    rcases e' with z | z
    · rw [z]; exact ⟨_, he, fun v q => nomatch q⟩
    · rw [z]; exact ⟨o, ho, fun v q => by rw [hd] at q; cases q⟩
  keep := fun i h h' st k => let ⟨⟨old, he⟩, hi, hne⟩ := st; ⟨⟨old, k e (by simp) _ he⟩, hi.at fun o q => k it (by simp) o q, hne⟩
  item := by
    intro X hP hw hK hc i pins s σ H E I hf st hg
    subst hP hw hK
    obtain ⟨⟨old, he⟩, hit, hne, hea⟩ := st
    obtain ⟨xs, x, hq, hx⟩ := hg
    obtain ⟨its, rv, p, hz⟩ := I.tuple hq
    obtain ⟨u, hu, ru⟩ := rv.get hx
    have hel : e < s.heap.objs.size := Heap.lt_size he
    have hil : it < s.heap.objs.size := by obtain ⟨_, q, _⟩ := hit; exact Heap.lt_size q
    have hh : X.A.in1.handled = none := I.ok.hd hc
    have hlt : i < its.toArray.size := by
      have := (List.getElem?_eq_some_iff.mp hu).1
      simpa using this
    refine wpAny_pyNext_enum_itemD (Draws.tuple hh it a hai its.toArray) he ⟨hit, p⟩ hlt hne (by simp [hne, hea]) fun y h' tk hy ho hst hT hsz hk => ?_
    have ey : y = u := by
      have h1 : its.toArray[i]? = some y := hy
      have h2 : its.toArray[i]? = some u := by simpa using hu
      rw [h1] at h2; exact Option.some.inj h2
    subst ey
    refine ⟨_, rfl, wpAny_letOwnedTupleGo_enum (s := { s with heap := h', toks := tk + 1 }) ho fun h'' he' sb => ?_⟩
    have hT2 : h''.get? s.heap.objs.size = some { cls := .type "tuple", data := .seq #[.int i tk, y] } := (sb.2 _ (Nat.ne_of_gt hel)).trans hT
    have new : ObjOk X.prog X.w (upd H s.heap.objs.size (.tup [.int (i : Nat), x])) h'' s.heap.objs.size (.tup [.int (i : Nat), x]) :=
      ⟨by show 2 ≤ sizeLine; decide, [.int i tk, y], .cons ⟨_, rfl⟩ (.cons ru .nil), ⟨_, hT2, rfl, _, rfl⟩⟩
    have I1 : Inv X pins σ (upd H s.heap.objs.size (.tup [.int (i : Nat), x])) { s with heap := h'', toks := tk + 1 } :=
      I.turnedNew (ch := [e, it]) (fun b ob hb q => (sb.2 b (fun z => hb (by simp [z]))).trans (hk b ob (fun z => hb (by simp [z])) (fun z => hb (by simp [z])) q)) hf (Nat.le_refl _) new
    refine ⟨.ref s.heap.objs.size, _, I1, rfl, ⟨_, x, rfl, I.hok.fresh (Nat.le_refl _), rfl, fun ys hy => by rw [I.tuple_inj hy hq]; exact hx⟩, ⟨⟨y, ?_⟩, hst.1.at fun o q => (sb.2 it (Ne.symm hne)).trans q, hne, hea⟩, fun b hb => ?_⟩
    · have e1 : ((i + 1 : Nat) : Int) = (i : Int) + 1 := by omega
      rw [e1]; exact he'
    · have hb' : b < s.heap.objs.size := by
        have e' : b = e ∨ b = it := by simpa using hb
        rcases e' with z | z
        · rw [z]; exact hel
        · rw [z]; exact hil
      rw [upd_ne (Nat.ne_of_lt hb')]
      exact (hf b hb).1
  done := by
    intro X hP hw hK hc i pins s σ H E I hf st hg
    subst hP hw hK
    obtain ⟨⟨old, he⟩, hit, hne, hea⟩ := st
    obtain ⟨xs, hq, hx⟩ := hg
    obtain ⟨its, rv, p, hz⟩ := I.tuple hq
    obtain ⟨f0, f1, f2, f3, f4, f5⟩ := hf it (by simp)
    have hh : X.A.in1.handled = none := I.ok.hd hc
    have hit2 : s.heap.IsTupleIter it a i := hit
    have hlen : i = its.toArray.size := by rw [List.size_toArray, ← rv.length, hx]
    subst hlen
    exact wpAny_pyNext_enum_endD (Draws.tuple hh it a hai its.toArray) he ⟨hit2, p⟩ fun h' eb => ⟨rfl, I.turned (t' := s.toks) (fun b o hb q => eb b o hb q) f0 f1 f3 f4 f5⟩
  self := fun A i s Q E st h => let ⟨⟨_, he⟩, _⟩ := st; wpAny_pyIter_enum he h
/-! ### what is walked -/
section
variable {X : Cx} {W : WX} {fr fr2 fr3 : Bool} {tg e a b : Expr} {te : TE} {fa : E} {gl : EL} {pos p : Pos} {n : Nat}
def iSeqAll (K : PySem.W.Frag) (tl : TE) : TI := fun σ H R => tl σ H fun x H1 => (∃ a, x = .ref a ∧ (∃ xs, SqL K H1 a xs) ∧ R (Itl K a) H1) ∨ (∃ a, x = .ref a ∧ (∃ xs, SqT K H1 a xs) ∧ R (Itt K a) H1) ∨ ∃ z, x = .str z ∧ R (Its z) H1
theorem pi_seqAll (hl : PE X e te) : PI X tg e (iSeqAll X.K te) := by
  refine ⟨fun pins s σ H R I h => ?_⟩
  refine thn (hl.run pins s σ H _ I h) fun v s1 ⟨x, H1, I1, r1, q1⟩ => ?_
  rcases q1 with ⟨a, e, ⟨xs, hq⟩, q⟩ | ⟨a, e, ⟨xs, hq⟩, q⟩ | ⟨z, e, q⟩
  · subst e
    cases r1
    obtain ⟨its, rv, pl, hz⟩ := I1.list hq
    exact wpAny_pyIter_list pl.isList (pi_one (tk := s1.toks) I1 _ (turn_list a _) ⟨_, Heap.get?_push_size _ rfl, rfl, rfl⟩ q)
  · subst e
    cases r1
    obtain ⟨its, rv, pl, hz⟩ := I1.tuple hq
    exact wpAny_pyIter_tuple (show s1.heap.IsTuple a its.toArray from pl) (pi_one (tk := s1.toks) I1 _ (turn_tuple a _) ⟨_, Heap.get?_push_size _ rfl, rfl, rfl⟩ q)
  · subst e
    obtain ⟨t, rfl⟩ := r1
    cases ha : z.cps.all (· < 128)
    · exact wpAny_pyIter_wide ha (pi_one (tk := s1.toks) I1 _ (turn_str _ z t "str_iterator" (.inr rfl)) ⟨_, Heap.get?_push_size _ rfl, rfl, rfl⟩ q)
    · exact wpAny_pyIter_ascii ha (pi_one (tk := s1.toks) I1 _ (turn_str _ z t "str_ascii_iterator" (.inl rfl)) ⟨_, Heap.get?_push_size _ rfl, rfl, rfl⟩ q)
def signs (z : Str) : List D := z.cps.toList.map fun c => .str ⟨#[c]⟩
def seqOf : D → Option (List D)
  | .lst l => some l
  | .tup l => some l
  | .str z => if z.length ≤ 16777216 then some (signs z) else none
  | _ => none
def iSeq (fa : E) : EL := fun env s => (fa env s).bind fun d s1 => Res.of s1 (seqOf d)
theorem itOk_list {K : PySem.W.Frag} {mg : Str → Option Value} {m : WM} {H : Hp} {l : List D} {a : Addr} (r : RV K mg m H (.lst l) (.ref a)) : ItOk K mg m H (Itl K a) l := by
  obtain ⟨p, vs, e, h1, n1, n2, hz, r1⟩ := r.lst'
  cases e
  refine ⟨hz, fun i m2 H2 w => ?_⟩
  have hq : SqL K H2 a vs := SqL.of (w.lst a vs h1 n1 n2)
  have r2 := RVs.mono w _ _ r1
  refine ⟨fun d hd => ?_, fun e => ⟨vs, hq, by rw [r1.length, e]; exact Nat.le_refl _⟩⟩
  obtain ⟨v, hv, rv⟩ := r2.get hd
  refine ⟨⟨vs, v, hq, hv⟩, fun x H3 ⟨e3, hx⟩ => ?_⟩
  subst e3
  have := hx vs hq
  rw [hv] at this
  cases this
  exact ⟨Grw.refl, rv⟩
theorem itOk_tup {K : PySem.W.Frag} {mg : Str → Option Value} {m : WM} {H : Hp} {l : List D} {a : Addr} (r : RV K mg m H (.tup l) (.ref a)) : ItOk K mg m H (Itt K a) l := by
  obtain ⟨p, vs, e, h1, hz, r1⟩ := r.tup'
  cases e
  refine ⟨hz, fun i m2 H2 w => ?_⟩
  have hq : SqT K H2 a vs := SqT.of (w.tup a vs h1)
  have r2 := RVs.mono w _ _ r1
  refine ⟨fun d hd => ?_, fun e => ⟨vs, hq, by rw [r1.length, e]; exact Nat.le_refl _⟩⟩
  obtain ⟨v, hv, rv⟩ := r2.get hd
  refine ⟨⟨vs, v, hq, hv⟩, fun x H3 ⟨e3, hx⟩ => ?_⟩
  subst e3
  have := hx vs hq
  rw [hv] at this
  cases this
  exact ⟨Grw.refl, rv⟩
theorem itOk_str {K : PySem.W.Frag} {mg : Str → Option Value} {m : WM} {H : Hp} {z : Str} (hz : z.length ≤ 16777216) : ItOk K mg m H (Its z) (signs z) := by
  have hl : (signs z).length = z.cps.size := by unfold signs; rw [List.length_map, Array.length_toList]
  refine ⟨by rw [hl, size_lit]; exact hz, fun i m2 H2 w => ⟨fun d hd => ?_, fun e => by rw [e, hl]; exact Nat.le_refl _⟩⟩
  unfold signs at hd
  rw [List.getElem?_map, Array.getElem?_toList] at hd
  cases q : z.cps[i]? with
  | none => rw [q] at hd; cases hd
  | some c =>
    rw [q] at hd
    cases hd
    refine ⟨(Array.getElem?_eq_some_iff.mp q).1, fun x H3 ⟨e3, c', hc, ex⟩ => ?_⟩
    rw [q] at hc
    cases hc
    subst e3 ex
    exact ⟨Grw.refl, RV.str⟩
theorem si_seq (he : SE X W fr2 e fa) : SI X W tg e (iSeq fa) := PI.imp (pi_seqAll (seF he)) fun σ H R ⟨m, env, s, S, E, k⟩ => by
  refine ⟨m, env, s, S, E, (KontG.bind (R := RD X.K X.mg false H) k).imp fun x H1 ⟨dx, s1, m1, e1, A, k1⟩ => ?_⟩
  obtain ⟨ds, ed, k2⟩ := k1.of
  have fin : ∀ J, ItOk X.K X.mg m1 H1 J ds → R J H1 := fun J hJ => k2 J m1 H1 A.st A.ph A.sim hJ
  cases dx with
  | lst l =>
    cases ed
    obtain ⟨a, vs, e, h1, _⟩ := A.rel.1.lst'
    subst e
    exact .inl ⟨a, rfl, ⟨vs, SqL.of h1⟩, fin _ (itOk_list A.rel.1)⟩
  | tup l =>
    cases ed
    obtain ⟨a, vs, e, h1, _⟩ := A.rel.1.tup'
    subst e
    exact .inr (.inl ⟨a, rfl, ⟨vs, SqT.of h1⟩, fin _ (itOk_tup A.rel.1)⟩)
  | str z =>
    have ed' : (if z.length ≤ 16777216 then some (signs z) else none) = some ds := ed
    split at ed'
    · rename_i hz
      cases ed'
      exact .inr (.inr ⟨z, A.rel.1.str', fin _ (itOk_str hz)⟩)
    · cases ed'
  | _ => cases ed
/-! ranges -/
def rngD (lo : Int) (n : Nat) : List D := (List.range n).map fun (i : Nat) => .int (lo + i)
def gR1 : List D → Option (List D)
  | [.int j] => if -100000 ≤ j ∧ j ≤ 100000 then some (rngD 0 j.toNat) else none
  | _ => none
def gR2 : List D → Option (List D)
  | [.int i, .int j] => if -100000 ≤ i ∧ i ≤ 100000 ∧ -100000 ≤ j ∧ j ≤ 100000 then some (rngD i (j - i).toNat) else none
  | _ => none
def iOf (g : List D → Option (List D)) (gl : EL) : EL := fun env s => (gl env s).bind fun ds s1 => Res.of s1 (g ds)
theorem itOk_rng {K : PySem.W.Frag} {mg : Str → Option Value} {m : WM} {H : Hp} {lo : Int} {n : Nat} (hn : n ≤ 200000) : ItOk K mg m H (Itr lo n) (rngD lo n) := by
  have hl : (rngD lo n).length = n := by unfold rngD; rw [List.length_map, List.length_range]
  refine ⟨by rw [hl, size_lit]; omega, fun i m2 H2 w => ⟨fun d hd => ?_, fun e => by rw [e, hl]; exact Nat.le_refl _⟩⟩
  unfold rngD at hd
  rw [List.getElem?_map] at hd
  cases q : (List.range n)[i]? with
  | none => rw [q] at hd; cases hd
  | some c =>
    rw [q] at hd
    cases hd
    have hc : i < n ∧ c = i := by
      obtain ⟨h1, h2⟩ := List.getElem?_eq_some_iff.mp q
      rw [List.length_range] at h1
      rw [List.getElem_range] at h2
      exact ⟨h1, h2.symm⟩
    refine ⟨hc.1, fun x H3 ⟨e3, ex⟩ => ?_⟩
    subst e3 ex
    rw [hc.2]
    exact ⟨Grw.refl, RV.int⟩
theorem si_range1 (hg : Gl X "range") (hm : X.mg "range" = none) (ha : SA X W 1 [a] gl) (hs : starEach [a] X.env = [(false, eval a X.env)] := by rfl) : SI X W tg (.Call (.Name "range" p) [a] [] pos) (iOf gR1 gl) := PI.imp (pi_range1 hg hm ha hs) fun σ H R ⟨m, env, s, S, E, k⟩ => by
  refine ⟨m, env, s, S, E, (KontG.bind k).imp fun xs H1 ⟨dxs, s1, m1, e1, A, k1⟩ => ?_⟩
  obtain ⟨ds, ed, k2⟩ := k1.of
  unfold gR1 at ed
  split at ed
  · rename_i j
    split at ed
    · rename_i h
      cases ed
      obtain ⟨v, ev, r1⟩ := one A.rel.1
      exact ⟨j, by rw [ev, r1.int'], by omega, by omega, k2 _ m1 H1 A.st A.ph A.sim (itOk_rng (by omega))⟩
    · cases ed
  · cases ed
theorem si_range2 (hg : Gl X "range") (hm : X.mg "range" = none) (ha : SA X W 2 [a, b] gl) (hs : starEach [a, b] X.env = [(false, eval a X.env), (false, eval b X.env)] := by rfl) (hs2 : starEach [b] X.env = [(false, eval b X.env)] := by rfl) :
    SI X W tg (.Call (.Name "range" p) [a, b] [] pos) (iOf gR2 gl) := PI.imp (pi_range2 hg hm ha hs hs2) fun σ H R ⟨m, env, s, S, E, k⟩ => by
  refine ⟨m, env, s, S, E, (KontG.bind k).imp fun xs H1 ⟨dxs, s1, m1, e1, A, k1⟩ => ?_⟩
  obtain ⟨ds, ed, k2⟩ := k1.of
  unfold gR2 at ed
  split at ed
  · rename_i i j
    split at ed
    · rename_i h
      cases ed
      obtain ⟨v, w, ev, r1, r2⟩ := two A.rel.1
      exact ⟨i, j, by rw [ev, r1.int', r2.int'], by omega, k2 _ m1 H1 A.st A.ph A.sim (itOk_rng (by omega))⟩
    · cases ed
  · cases ed
/-! enumerate, zip -/
def enumD : Nat → List D → List D
  | _, [] => []
  | k, d :: l => .tup [.int k, d] :: enumD (k + 1) l
def zipD : List D → List D → List D
  | d :: l, e :: r => .tup [d, e] :: zipD l r
  | _, _ => []
theorem enumD_get : ∀ (l : List D) (k i : Nat), (enumD k l)[i]? = (l[i]?).map fun d => .tup [.int ((k + i : Nat) : Int), d]
  | [], k, i => by simp [enumD]
  | d :: l, k, 0 => by simp [enumD]
  | d :: l, k, i + 1 => by
    rw [enumD, List.getElem?_cons_succ, List.getElem?_cons_succ, enumD_get l (k + 1) i]
    rw [show k + 1 + i = k + (i + 1) by omega]
theorem zipD_get : ∀ (l r : List D) (i : Nat), (zipD l r)[i]? = match l[i]?, r[i]? with
    | some d, some e => some (.tup [d, e])
    | _, _ => none
  | [], r, i => by simp [zipD]
  | d :: l, [], i => by cases h : (d :: l)[i]? <;> simp [zipD]
  | d :: l, e :: r, 0 => by simp [zipD]
  | d :: l, e :: r, i + 1 => by
    rw [zipD, List.getElem?_cons_succ, List.getElem?_cons_succ, List.getElem?_cons_succ, zipD_get l r i]
theorem enumD_len : ∀ (l : List D) (k : Nat), (enumD k l).length = l.length
  | [], _ => rfl
  | d :: l, k => by rw [enumD, List.length_cons, List.length_cons, enumD_len l]
theorem zipD_len : ∀ (l r : List D), (zipD l r).length = min l.length r.length
  | [], r => by simp [zipD]
  | d :: l, [] => by simp [zipD]
  | d :: l, e :: r => by rw [zipD, List.length_cons, List.length_cons, List.length_cons, zipD_len l r]; omega
def gEnum : List D → Option (List D)
  | [.lst l] => some (enumD 0 l)
  | [.tup l] => some (enumD 0 l)
  | _ => none
def gZip : List D → Option (List D)
  | [.lst l, .lst r] => some (zipD l r)
  | [.tup l, .tup r] => some (zipD l r)
  | _ => none
def iEnumA (K : PySem.W.Frag) (ta : TA) : TI := fun σ H R => ta σ H fun vs H1 => ∃ a xs, vs = [.ref a] ∧ ((SqL K H1 a xs ∧ R (Ite K a) H1) ∨ (SqT K H1 a xs ∧ R (IteT K a) H1))
theorem pi_enumA {ta : TA} {tpos : Pos} {elts : List Expr} {kk : Nat} (hg : Gl X "enumerate") (hm : X.mg "enumerate" = none) (ha : PA X [e] ta) (hs : starEach [e] X.env = [(false, eval e X.env)] := by rfl) :
    PI X (.Tuple elts kk tpos) (.Call (.Name "enumerate" p) [e] [] pos) (iEnumA X.K ta) := by
  refine ⟨fun pins s σ H R I h => ?_⟩
  refine PyProof.Rows.Call_ (ld_blt I hg hm PyProof.Rows.boot_enumerate (PyProof.Rows.callWith_type1 (thn (ha.run pos pins s σ H _ I h) fun us s1 ⟨vs, H1, I1, r1, q1⟩ => ?_) hs rfl))
  obtain ⟨a, xs, ex, q1⟩ := q1
  subst ex
  cases r1 with
  | cons r rr =>
    cases rr
    cases r
    have fresh : ∀ b, b ∈ [s1.heap.objs.size + 1, s1.heap.objs.size] → FpOk X pins H1 b := fun b hb => by
      have e' : b = s1.heap.objs.size + 1 ∨ b = s1.heap.objs.size := by simpa using hb
      have hle : s1.heap.objs.size ≤ b := by
        rcases e' with z | z
        · rw [z]; exact Nat.le_add_right _ _
        · rw [z]; exact Nat.le_refl _
      exact I1.fpOk hle (I1.hok.fresh hle)
    rcases q1 with ⟨hq, q⟩ | ⟨hq, q⟩
    · obtain ⟨its, rv, p', hz⟩ := I1.list hq
      refine call_enumerate_list p'.isList fun h' he hit hsz hk => wpAny_pyIter_enum he ?_
      have I2 : Inv X pins σ H1 { s1 with heap := h' } := I1.kept (t' := s1.toks) hk
      exact ⟨s1.heap.objs.size + 1, [s1.heap.objs.size + 1, s1.heap.objs.size], _, _, H1, rfl, I2, turn_enum a (s1.heap.objs.size + 1) s1.heap.objs.size, ⟨⟨.none, he⟩, hit, Nat.succ_ne_self _⟩, fresh, q⟩
    · obtain ⟨its, rv, p', hz⟩ := I1.tuple hq
      have hlt : a < s1.heap.objs.size := by obtain ⟨o, ho, _⟩ := p'; exact Heap.lt_size ho
      refine G_call_enumT (show s1.heap.IsTuple a its.toArray from p') fun h' he hit hsz hk => wpAny_pyIter_enum he ?_
      have I2 : Inv X pins σ H1 { s1 with heap := h' } := I1.kept (t' := s1.toks) hk
      exact ⟨s1.heap.objs.size + 1, [s1.heap.objs.size + 1, s1.heap.objs.size], _, _, H1, rfl, I2, turn_enumT a (s1.heap.objs.size + 1) s1.heap.objs.size (Nat.ne_of_lt hlt), ⟨⟨.none, he⟩, hit, Nat.succ_ne_self _, Nat.ne_of_gt (Nat.lt_succ_of_lt hlt)⟩, fresh, q⟩
theorem RVs.two {K : PySem.W.Frag} {mg : Str → Option Value} {m : WM} {H : Hp} {d e : D} {v w : V} (r1 : RV K mg m H d v) (r2 : RV K mg m H e w) : RVs K mg m H [d, e] [v, w] := RVs.mk r1 (RVs.mk r2 (RVs.nil.mpr rfl))
theorem si_enum {tpos : Pos} {elts : List Expr} {kk : Nat} (hg : Gl X "enumerate") (hm : X.mg "enumerate" = none) (ha : SA X W 1 [e] gl) (hs : starEach [e] X.env = [(false, eval e X.env)] := by rfl) :
    SI X W (.Tuple elts kk tpos) (.Call (.Name "enumerate" p) [e] [] pos) (iOf gEnum gl) := PI.imp (pi_enumA hg hm ha hs) fun σ H R ⟨m, env, s, S, E, k⟩ => by
  refine ⟨m, env, s, S, E, (KontG.bind k).imp fun xs H1 ⟨dxs, s1, m1, e1, A, k1⟩ => ?_⟩
  obtain ⟨ds, ed, k2⟩ := k1.of
  unfold gEnum at ed
  split at ed
  · rename_i l
    cases ed
    obtain ⟨v, ev, r1⟩ := one A.rel.1
    obtain ⟨a, vs, ea, h1, n1, n2, hz, r2⟩ := r1.lst'
    refine ⟨a, vs, by rw [ev, ea], .inl ⟨SqL.of h1, k2 _ m1 H1 A.st A.ph A.sim ⟨by rw [enumD_len]; exact hz, fun i m2 H2 w => ?_⟩⟩⟩
    have hq : SqL X.K H2 a vs := SqL.of (w.lst a vs h1 n1 n2)
    have r3 := RVs.mono w _ _ r2
    refine ⟨fun d hd => ?_, fun e => ⟨vs, hq, by rw [r2.length, e, enumD_len]; exact Nat.le_refl _⟩⟩
    rw [enumD_get] at hd
    cases q : l[i]? with
    | none => rw [q] at hd; cases hd
    | some d' =>
      rw [q] at hd
      cases hd
      obtain ⟨v', hv, rv⟩ := r3.get q
      refine ⟨⟨vs, v', hq, hv⟩, fun x H3 ⟨T, x', ex, hT, e3, hx⟩ => ?_⟩
      have := hx vs hq
      rw [hv] at this
      cases this
      subst e3 ex
      have e0 : ((0 + i : Nat) : Int) = (i : Int) := by omega
      rw [e0]
      exact ⟨Grw.new hT, RV.newT (RVs.two RV.int rv) hT (by show 2 ≤ sizeLine; decide)⟩
  · rename_i l
    cases ed
    obtain ⟨v, ev, r1⟩ := one A.rel.1
    obtain ⟨a, vs, ea, h1, hz, r2⟩ := r1.tup'
    refine ⟨a, vs, by rw [ev, ea], .inr ⟨SqT.of h1, k2 _ m1 H1 A.st A.ph A.sim ⟨by rw [enumD_len]; exact hz, fun i m2 H2 w => ?_⟩⟩⟩
    have hq : SqT X.K H2 a vs := SqT.of (w.tup a vs h1)
    have r3 := RVs.mono w _ _ r2
    refine ⟨fun d hd => ?_, fun e => ⟨vs, hq, by rw [r2.length, e, enumD_len]⟩⟩
    rw [enumD_get] at hd
    cases q : l[i]? with
    | none => rw [q] at hd; cases hd
    | some d' =>
      rw [q] at hd
      cases hd
      obtain ⟨v', hv, rv⟩ := r3.get q
      refine ⟨⟨vs, v', hq, hv⟩, fun x H3 ⟨T, x', ex, hT, e3, hx⟩ => ?_⟩
      have := hx vs hq
      rw [hv] at this
      cases this
      subst e3 ex
      have e0 : ((0 + i : Nat) : Int) = (i : Int) := by omega
      rw [e0]
      exact ⟨Grw.new hT, RV.newT (RVs.two RV.int rv) hT (by show 2 ≤ sizeLine; decide)⟩
  · cases ed
theorem si_zip {tpos : Pos} {elts : List Expr} {kk : Nat} (hg : Gl X "zip") (hm : X.mg "zip" = none) (ha : SA X W 2 [a, b] gl)
    (hs : starEach [a, b] X.env = (false, eval a X.env) :: starEach [b] X.env := by rfl) (hpl : (backTo pos (starEach [b] X.env)).any (·.1) = false := by rfl) :
    SI X W (.Tuple elts kk tpos) (.Call (.Name "zip" p) [a, b] [] pos) (iOf gZip gl) := PI.imp (RZ.pi_zipA hg hm ha hs hpl) fun σ H R ⟨m, env, s, S, E, k⟩ => by
  refine ⟨m, env, s, S, E, (KontG.bind k).imp fun xs H1 ⟨dxs, s1, m1, e1, A, k1⟩ => ?_⟩
  obtain ⟨ds, ed, k2⟩ := k1.of
  unfold gZip at ed
  split at ed
  · rename_i l r
    cases ed
    obtain ⟨v, w, ev, r1, r2⟩ := two A.rel.1
    obtain ⟨p1, vs, ea, h1, n1, n2, hz, q1⟩ := r1.lst'
    obtain ⟨p2, ws, eb, h2, n3, n4, hz2, q2⟩ := r2.lst'
    refine ⟨p1, p2, vs, ws, by rw [ev, ea, eb], .inl ⟨SqL.of h1, SqL.of h2, k2 _ m1 H1 A.st A.ph A.sim ⟨by rw [zipD_len]; omega, fun i m2 H2 w => ?_⟩⟩⟩
    have hq : SqL X.K H2 p1 vs := SqL.of (w.lst p1 vs h1 n1 n2)
    have hq2 : SqL X.K H2 p2 ws := SqL.of (w.lst p2 ws h2 n3 n4)
    have t1 := RVs.mono w _ _ q1
    have t2 := RVs.mono w _ _ q2
    refine ⟨fun d hd => ?_, fun e => ⟨vs, ws, hq, hq2, by rw [q1.length, q2.length, e, zipD_len]; omega⟩⟩
    rw [zipD_get] at hd
    cases c1 : l[i]? with
    | none => rw [c1] at hd; cases hd
    | some d1 =>
      cases c2 : r[i]? with
      | none => rw [c1, c2] at hd; cases hd
      | some d2 =>
        rw [c1, c2] at hd
        cases hd
        obtain ⟨v1, hv1, rv1⟩ := t1.get c1
        obtain ⟨v2, hv2, rv2⟩ := t2.get c2
        refine ⟨⟨vs, ws, v1, v2, hq, hq2, hv1, hv2⟩, fun x H3 ⟨T, x1, x2, ex, hT, e3, hx1, hx2⟩ => ?_⟩
        have u1 := hx1 vs hq
        have u2 := hx2 ws hq2
        rw [hv1] at u1
        rw [hv2] at u2
        cases u1
        cases u2
        subst e3 ex
        exact ⟨Grw.new hT, RV.newT (RVs.two rv1 rv2) hT (by show 2 ≤ sizeLine; decide)⟩
  · rename_i l r
    cases ed
    obtain ⟨v, w, ev, r1, r2⟩ := two A.rel.1
    obtain ⟨p1, vs, ea, h1, hz, q1⟩ := r1.tup'
    obtain ⟨p2, ws, eb, h2, hz2, q2⟩ := r2.tup'
    refine ⟨p1, p2, vs, ws, by rw [ev, ea, eb], .inr ⟨SqT.of h1, SqT.of h2, k2 _ m1 H1 A.st A.ph A.sim ⟨by rw [zipD_len]; omega, fun i m2 H2 w => ?_⟩⟩⟩
    have hq : SqT X.K H2 p1 vs := SqT.of (w.tup p1 vs h1)
    have hq2 : SqT X.K H2 p2 ws := SqT.of (w.tup p2 ws h2)
    have t1 := RVs.mono w _ _ q1
    have t2 := RVs.mono w _ _ q2
    refine ⟨fun d hd => ?_, fun e => ⟨vs, ws, hq, hq2, by rw [q1.length, q2.length, e, zipD_len]; omega⟩⟩
    rw [zipD_get] at hd
    cases c1 : l[i]? with
    | none => rw [c1] at hd; cases hd
    | some d1 =>
      cases c2 : r[i]? with
      | none => rw [c1, c2] at hd; cases hd
      | some d2 =>
        rw [c1, c2] at hd
        cases hd
        obtain ⟨v1, hv1, rv1⟩ := t1.get c1
        obtain ⟨v2, hv2, rv2⟩ := t2.get c2
        refine ⟨⟨vs, ws, v1, v2, hq, hq2, hv1, hv2⟩, fun x H3 ⟨T, x1, x2, ex, hT, e3, hx1, hx2⟩ => ?_⟩
        have u1 := hx1 vs hq
        have u2 := hx2 ws hq2
        rw [hv1] at u1
        rw [hv2] at u2
        cases u1
        cases u2
        subst e3 ex
        exact ⟨Grw.new hT, RV.newT (RVs.two rv1 rv2) hT (by show 2 ≤ sizeLine; decide)⟩
  · cases ed
end
end G

end
section
namespace G
open PySem PySem.Spec L2
open PyProof.Rows (envOfC)
variable [Tb]
/-! ### more statements -/
section
variable {X : Cx} {W : WX} {fr cf fr2 fr3 fr4 : Bool} {e a b c tg iter elt : Expr} {es : List Expr} {fa fb fc : E} {gi gl : EL} {p : Pat} {pos spos : Pos} {n : Nat} {st : Stmt}
theorem ss_set_of {te : TE} {i : Nat} (h : PS X st (tAsg te (gName i))) (im : ∀ σ H Q, tE X.K X.mg W fr2 fa σ H Q → te σ H Q) : SS X W fr cf st (sSet i fa) := PS.imp h fun D σ H ⟨m, env, s, S, E, k⟩ => by
  refine im σ H _ ⟨m, env, s, S, E, (KontS.st k E).imp fun x H1 ⟨d, s1, m1, e1, A, E1, k1⟩ => ?_⟩
  exact k1.nx A.sim (E1.set i A.rel.1)
theorem ss_cel_of {te : TE} {i : Nat} (h : PS X st (tAsg te (gName i))) (im : ∀ σ H Q, tE X.K X.mg W true fa σ H Q → te σ H Q) : SS X W fr true st (sCel i fa) := PS.imp h fun D σ H ⟨m, env, s, S, E, k⟩ => by
  refine im σ H _ ⟨m, env, s, S, E, (KontS.st k E).imp fun x H1 ⟨d, s1, m1, e1, A, E1, k1⟩ => ?_⟩
  cases d with
  | lst l =>
    simp only at k1
    split at k1
    · rename_i hp
      obtain ⟨a, vs, ex, h1, n1, n2, hz, r1⟩ := A.rel.1.lst'
      subst ex
      obtain ⟨hn, S2, vs2, h2, r2⟩ := A.rel.2 rfl l a rfl rfl
      rw [h1] at h2
      cases h2
      obtain ⟨S3, st3⟩ := A.sim.newCel S2 h1 hp hz r1 n2 A.st hn ⟨[], by rw [A.ph]; simp, by simp⟩ r2
      have k3 : KontS X.K X.mg W fr true m H ((fa env s).st env fun d s1 => match d with | .lst l => if pureL l = true then .ok .nx (env.set i (some (.cel s1.cel.length))) (newCel s1 l) else .bad | _ => .bad) D := k
      rw [e1] at k3
      simp only [Res.st_ok, if_pos hp] at k3
      refine k3 _ _ H1 st3 (fun z => nomatch z) S3 ((E.mono st3.wk).set i ?_)
      unfold RV
      refine ⟨a, rfl, ?_⟩
      show (m1.phi ++ [a])[s1.cel.length]? = some a
      rw [← A.sim.cl, List.getElem?_append_right (Nat.le_refl _), Nat.sub_self]
      rfl
    · exact k1.elim
  | _ => exact k1.elim
theorem ss_setLc {i : Nat} {y : Str} {py : Pos} {ifs : List Expr} {scope : Scope} {own : List (Str × Nat)} {gt : EB} (hc : X.calm = true) (hN : X.N.Nodup) (hy : X.N[i]? = some y) (hyl : X.env.scope.names.lookup y = some .local)
    (hsw : swapsWith (.ListComp elt [⟨tg, iter, ifs, 0⟩] scope pos) (some (.Name y py)) spos.line X.env = pure true) (hi : SI X W tg iter gi) (ok : BlkOk X.N X.env.scope scope own)
    (hg : ∀ (s : Shared) (H : Hp) (C : Addr) (cl : List (Str × Addr)) (fp : List Addr), SG (X.blk s H scope (compEnvC scope cl C X.env) fp) tg p) (ht : ∀ (s : Shared) (H : Hp) (C : Addr) (cl : List (Str × Addr)) (fp : List Addr), PTs (X.blk s H scope (compEnvC scope cl C X.env) fp) ifs (tT X.K X.mg W0 gt))
    (he : ∀ (s : Shared) (H : Hp) (C : Addr) (cl : List (Str × Addr)) (fp : List Addr), SE (X.blk s H scope (compEnvC scope cl C X.env) fp) W0 fr2 elt fa) (hp : ∀ i ∈ p.slots, i ∈ own.map (·.2) := by decide) (hs : ∀ x, foldedSetIterable iter X.env x = pure x := by intro _; rfl) :
    SS X W fr cf (.Assign [.Name y py] (.ListComp elt [⟨tg, iter, ifs, 0⟩] scope pos) spos) (sSet i (eLc (own.map (·.2)) p gi gt fa)) :=
  ss_set_of (fr2 := true) (ps_setLc (g := tG X.K X.mg p) (te := tE X.K X.mg W0 false fa) hc hN hy hyl hsw hi ok hg ht (fun s H C cl fp => seF (X := X.blk s H scope (compEnvC scope cl C X.env) fp) (he s H C cl fp)) hs) (lc_imp hp)
theorem ss_celLc {i : Nat} {y : Str} {py : Pos} {ifs : List Expr} {scope : Scope} {own : List (Str × Nat)} {gt : EB} (hc : X.calm = true) (hN : X.N.Nodup) (hy : X.N[i]? = some y) (hyl : X.env.scope.names.lookup y = some .local)
    (hsw : swapsWith (.ListComp elt [⟨tg, iter, ifs, 0⟩] scope pos) (some (.Name y py)) spos.line X.env = pure true) (hi : SI X W tg iter gi) (ok : BlkOk X.N X.env.scope scope own)
    (hg : ∀ (s : Shared) (H : Hp) (C : Addr) (cl : List (Str × Addr)) (fp : List Addr), SG (X.blk s H scope (compEnvC scope cl C X.env) fp) tg p) (ht : ∀ (s : Shared) (H : Hp) (C : Addr) (cl : List (Str × Addr)) (fp : List Addr), PTs (X.blk s H scope (compEnvC scope cl C X.env) fp) ifs (tT X.K X.mg W0 gt))
    (he : ∀ (s : Shared) (H : Hp) (C : Addr) (cl : List (Str × Addr)) (fp : List Addr), SE (X.blk s H scope (compEnvC scope cl C X.env) fp) W0 fr2 elt fa) (hp : ∀ i ∈ p.slots, i ∈ own.map (·.2) := by decide) (hs : ∀ x, foldedSetIterable iter X.env x = pure x := by intro _; rfl) :
    SS X W fr true (.Assign [.Name y py] (.ListComp elt [⟨tg, iter, ifs, 0⟩] scope pos) spos) (sCel i (eLc (own.map (·.2)) p gi gt fa)) :=
  ss_cel_of (ps_setLc (g := tG X.K X.mg p) (te := tE X.K X.mg W0 false fa) hc hN hy hyl hsw hi ok hg ht (fun s H C cl fp => seF (X := X.blk s H scope (compEnvC scope cl C X.env) fp) (he s H C cl fp)) hs) (lc_imp hp)
/-! several names at once -/
/-- the parts of a, b = .., .., some of which become changeable lists: each is made as it comes -/
def pNil : EL := fun _ s => .ok [] s
def pCons (f : E) (r : EL) : EL := lCons f r
def pCel (f : E) (r : EL) : EL := fun env s => (f env s).bind fun d s1 => match d with
  | .lst l => if pureL l = true then (r env (newCel s1 l)).bind fun ds s2 => .ok (.cel s1.cel.length :: ds) s2 else .bad
  | _ => .bad
def setsE : List Nat → List D → Env → Env
  | i :: is, d :: ds, env => setsE is ds (env.set i (some d))
  | _, _, env => env
def sPar (is : List Nat) (g : EL) : SM := fun env s => (g env s).st env fun ds s1 => .ok .nx (setsE is ds env) s1
/-- as KontG, but changeable lists may be made -/
def KontP (K : PySem.W.Frag) (mg : Str → Option Value) (W : XK) (n : Nat) (m : WM) (H : Hp) (r : Res (List D)) (Q : List V → Hp → Prop) : Prop := match r with
  | .ok ds s' => ∀ vs m' H', Stp m H m' H' → Sim K mg m' s' H' → RVs K mg m' H' ds vs → ds.length = n → Q vs H'
  | .err x s' => ∀ c dx m' H', Stp m H m' H' → Sim K mg m' s' H' → ExR mg H' x c dx → W c dx H'
  | .bad => False
def tP (K : PySem.W.Frag) (mg : Str → Option Value) (W : WX) (n : Nat) (g : EL) : TA := fun σ H Q => ∃ m env s, Sim K mg m s H ∧ EnvR K mg m H env σ ∧ KontP K mg (fun c d H' => W c d σ H') n m H (g env s) Q
abbrev SPA (X : Cx) (W : WX) (n : Nat) (es : List Expr) (g : EL) : Prop := PA X es (tP X.K X.mg W n g)
theorem sp_nil : SPA X W 0 [] pNil := PA.imp pa_nil fun σ H Q ⟨m, env, s, S, E, k⟩ => k [] m H Stp.refl S (RVs.nil.mpr rfl) rfl
theorem sp_cons (ha : SE X W fr2 e fa) (hr : SPA X W n es gl) (hs : starEach (e :: es) X.env = (false, eval e X.env) :: starEach es X.env := by rfl) : SPA X W (n + 1) (e :: es) (pCons fa gl) := PA.imp (pa_cons (seF ha) hr hs) fun σ H Q ⟨m, env, s, S, E, k⟩ => by
  refine ⟨m, env, s, S, E, ?_⟩
  have k' : KontP X.K X.mg (fun c d H' => W c d σ H') (n + 1) m H ((fa env s).bind fun x s1 => (gl env s1).bind fun xs s2 => .ok (x :: xs) s2) Q := k
  revert k'
  cases fa env s with
  | bad => exact fun k => k
  | err x s1 => exact fun k c dx m' H' x1 x2 x3 x4 => k c dx m' H' x1 x3 x4
  | ok d s1 =>
    intro k v m1 H1 x1 x2 x3 x4
    refine ⟨m1, env, s1, x3, E.mono x1.wk, ?_⟩
    revert k
    simp only [Res.bind_ok]
    cases gl env s1 with
    | bad => exact fun k => k
    | err x s2 => exact fun k c dx m' H' y1 y2 y3 => k c dx m' H' (x1.trans y1) y2 y3
    | ok ds s2 => exact fun k vs m' H' y1 y2 y3 y4 => k (v :: vs) m' H' (x1.trans y1) y2 (RVs.mk (RV.mono y1.wk _ _ x4.1) y3) (by rw [List.length_cons, y4])
theorem sp_cel (ha : SE X W true e fa) (hr : SPA X W n es gl) (hs : starEach (e :: es) X.env = (false, eval e X.env) :: starEach es X.env := by rfl) : SPA X W (n + 1) (e :: es) (pCel fa gl) := PA.imp (pa_cons ha hr hs) fun σ H Q ⟨m, env, s, S, E, k⟩ => by
  refine ⟨m, env, s, S, E, ?_⟩
  have k' : KontP X.K X.mg (fun c d H' => W c d σ H') (n + 1) m H ((fa env s).bind fun d s1 => match d with
    | .lst l => if pureL l = true then (gl env (newCel s1 l)).bind fun ds s2 => .ok (.cel s1.cel.length :: ds) s2 else .bad
    | _ => .bad) Q := k
  revert k'
  cases fa env s with
  | bad => exact fun k => k
  | err x s1 => exact fun k c dx m' H' x1 x2 x3 x4 => k c dx m' H' x1 x3 x4
  | ok d s1 =>
    intro k v m1 H1 x1 x2 x3 x4
    simp only [Res.bind_ok] at k
    cases d with
    | lst l =>
      simp only at k
      split at k
      · rename_i hp
        obtain ⟨a, vs, ex, h1, n1, n2, hz, r1⟩ := x4.1.lst'
        subst ex
        obtain ⟨hn, S2, vs2, h2, r2⟩ := x4.2 rfl l a rfl rfl
        rw [h1] at h2
        cases h2
        obtain ⟨S3, st3⟩ := x3.newCel S2 h1 hp hz r1 n2 x1 hn ⟨[], by rw [x2]; simp, by simp⟩ r2
        refine ⟨_, env, newCel s1 l, S3, E.mono st3.wk, ?_⟩
        have rc : RV X.K X.mg { m1 with phi := m1.phi ++ [a] } H1 (.cel s1.cel.length) (.ref a) := by
          unfold RV
          refine ⟨a, rfl, ?_⟩
          show (m1.phi ++ [a])[s1.cel.length]? = some a
          rw [← x3.cl, List.getElem?_append_right (Nat.le_refl _), Nat.sub_self]
          rfl
        revert k
        cases gl env (newCel s1 l) with
        | bad => exact fun k => k
        | err x s2 => exact fun k c dx m' H' y1 y2 y3 => k c dx m' H' (st3.trans y1) y2 y3
        | ok ds s2 => exact fun k vs m' H' y1 y2 y3 y4 => k (.ref a :: vs) m' H' (st3.trans y1) y2 (RVs.mk (RV.mono y1.wk _ _ rc) y3) (by rw [List.length_cons, y4])
      · exact k.elim
    | _ => exact k.elim
theorem par_fin {K : PySem.W.Frag} {mg : Str → Option Value} {σ : L2.St} {H : Hp} {D : Ends} {is : List Nat} (h : tS K mg W fr true (sPar is gl) D σ H) : tP K mg W n gl σ H fun vs H1 => ∃ m1 env ds s1, Sim K mg m1 s1 H1 ∧ EnvR K mg m1 H1 env σ ∧ RVs K mg m1 H1 ds vs ∧ ds.length = n ∧ KontS K mg W fr true m1 H1 (.ok .nx (setsE is ds env) s1) D := by
  obtain ⟨m, env, s, S, E, k⟩ := h
  refine ⟨m, env, s, S, E, ?_⟩
  have k' : KontS K mg W fr true m H ((gl env s).st env fun ds s1 => .ok .nx (setsE is ds env) s1) D := k
  revert k'
  cases gl env s with
  | bad => exact fun k => k
  | err x s1 => exact fun k c dx m' H' x1 x2 x3 => k c dx m' σ H' x1 (fun z => nomatch z) x2 (E.mono x1.wk) x3
  | ok ds s1 => exact fun k vs m' H' x1 x2 x3 x4 => ⟨m', env, ds, s1, x2, E.mono x1.wk, x3, x4, KontS.move k x1 fun z => nomatch z⟩
theorem ss_par {i j : Nat} {x y : Str} {px py pt : Pos} {kt k2 pt2} (hc : X.calm = true) (hN : X.N.Nodup) (hi : X.N[i]? = some x) (hj : X.N[j]? = some y) (hij : i ≠ j)
    (hx : X.env.scope.names.lookup x = some .local) (hy : X.env.scope.names.lookup y = some .local) (ha : SPA X W 2 [a, b] gl)
    (hw : swappedStores [.Tuple [.Name x px, .Name y py] kt pt] (.Tuple [a, b] k2 pt2) X.env = pure (some [x, y]))
    (hs : swapsWithSole [.Tuple [.Name x px, .Name y py] kt pt] (.Tuple [a, b] k2 pt2) pos.line X.env = pure false := by rfl) : SS X W fr true (.Assign [.Tuple [.Name x px, .Name y py] kt pt] (.Tuple [a, b] k2 pt2) pos) (sPar [i, j] gl) :=
  PS.imp (ps_par hc hN hi hj hij hx hy ha hw hs) fun D σ H h => by
    obtain ⟨m, env, s, S, E, k⟩ := par_fin (n := 2) h
    refine ⟨m, env, s, S, E, ?_⟩
    revert k
    cases gl env s with
    | bad => exact fun k => k
    | err x s1 => exact fun k => k
    | ok ds s1 =>
      intro k vs m' H' x1 x2 x3 x4
      obtain ⟨m1, env1, ds1, s2, S1, E1, r1, l1, k1⟩ := k vs m' H' x1 x2 x3 x4
      match ds1, l1 with
      | [d1, d2], _ =>
        obtain ⟨v, w, ev, q1, q2⟩ := two r1
        exact ⟨v, w, ev, k1.nx S1 ((E1.set i q1).set j q2)⟩
theorem ss_par3 {i j l : Nat} {x y z : Str} {px py pz pt : Pos} {kt k2 pt2} (hc : X.calm = true) (hN : X.N.Nodup) (hi : X.N[i]? = some x) (hj : X.N[j]? = some y) (hl : X.N[l]? = some z) (hij : i ≠ j) (hil : i ≠ l) (hjl : j ≠ l)
    (hx : X.env.scope.names.lookup x = some .local) (hy : X.env.scope.names.lookup y = some .local) (hz : X.env.scope.names.lookup z = some .local) (ha : SPA X W 3 [a, b, c] gl)
    (hw : swappedStores [.Tuple [.Name x px, .Name y py, .Name z pz] kt pt] (.Tuple [a, b, c] k2 pt2) X.env = pure (some [x, y, z]))
    (hs : swapsWithSole [.Tuple [.Name x px, .Name y py, .Name z pz] kt pt] (.Tuple [a, b, c] k2 pt2) pos.line X.env = pure false := by rfl) : SS X W fr true (.Assign [.Tuple [.Name x px, .Name y py, .Name z pz] kt pt] (.Tuple [a, b, c] k2 pt2) pos) (sPar [i, j, l] gl) :=
  PS.imp (ps_par3 hc hN hi hj hl hij hil hjl hx hy hz ha hw hs) fun D σ H h => by
    obtain ⟨m, env, s, S, E, k⟩ := par_fin (n := 3) h
    refine ⟨m, env, s, S, E, ?_⟩
    revert k
    cases gl env s with
    | bad => exact fun k => k
    | err x s1 => exact fun k => k
    | ok ds s1 =>
      intro k vs m' H' x1 x2 x3 x4
      obtain ⟨m1, env1, ds1, s2, S1, E1, r1, l1, k1⟩ := k vs m' H' x1 x2 x3 x4
      match ds1, l1 with
      | [d1, d2, d3], _ =>
        obtain ⟨v, r2, ev, q1, q2⟩ := RVs.cons.mp r1
        obtain ⟨w, u, ew, q3, q4⟩ := two q2
        exact ⟨v, w, u, by rw [ev, ew], k1.nx S1 (((E1.set i q1).set j q3).set l q4)⟩
/-! raise X('..') -/
def sRaise (x : Str) : SM := fun env s => .err { cls := x } env s
theorem ss_raise {x m : Str} {j : Nat} {p p2 pos' : Pos} {C : Addr} (hc : X.calm = true) (tk : Takes X W) (gC : X.mg x = some (.ref C)) (q : PySem.W.excIn X.K C He.veBase "ValueError.__new__" = true ∧ PySem.W.keepIn X.K (.ref C) = true ∧ PySem.W.subIn X.K (.ref C) (.type "BaseException") = some true ∧ PySem.W.typeIn X.K (.ref C) = some (.type "type")) (hg : Gl X x)
    (hdb : (x == ("__debug__" : Str)) = false := by decide) : SS X W fr cf (.Raise (some (.Call (.Name x p) [.Constant (.str m) j p2] [] pos)) none pos') (sRaise x) :=
  PS.imp (ps_raise hc tk (pmk_own PySem.F.excBase_ValueError q.1 gC q.2.1 (raises_own q.2.2.1 q.2.2.2) hg hdb)) fun D σ H ⟨m, env, s, S, E, k⟩ => k (.ref C) none m σ H Stp.refl (fun _ => rfl) S E ⟨⟨C, rfl, gC⟩, trivial⟩
end
/-! ### a def by its parts -/
theorem cal_of {P : Program} {w : World} {K : PySem.W.Frag} {mg : Str → Option Value} {base : Heap} {k : Nat} {x : Str} {n : Nat} {fr : Bool} {G : Fun1} {params : Arguments} {body : List Stmt} {scope : Scope} {ps : List Str}
    (h : ∃ f fd, FunD K x x params body scope [] [] f fd ∧ mg x = some (.ref f)) (hb : ∀ {f fd}, FunD K x x params body scope [] [] f fd → Binds K fd ps [])
    (ok : ∀ {f fd}, FunD K x x params body scope [] [] f fd → FnOk P w K mg base (L2.CX P w) k f fd ps (spD K mg n fr G)) : Cal P w K mg base k x n fr G := by
  obtain ⟨f, fd, F, hm⟩ := h
  exact ⟨f, fd, ps, ok F, hm, F.kp, hb F⟩
/-! range as a list -/
section
variable {X : Cx} {W : WX} {fr2 : Bool} {a b : Expr} {fa fb : E} {gl : EL} {pos p p2 pos2 : Pos}
def eLstR (g : List D → Option (List D)) (gl : EL) : E := fun env s => (gl env s).bind fun ds s1 => (Res.of s1 (g ds)).bind fun l s2 => .ok (.lst l) s2
theorem rgV_at {K : PySem.W.Frag} {mg : Str → Option Value} {m : WM} {H : Hp} (i j : Int) : RVs K mg m H (rngD i (j - i).toNat) (rgV i j) := by
  unfold rngD rgV
  generalize (j - i).toNat = n
  have gen : ∀ l : List Nat, RVs K mg m H (l.map fun (t : Nat) => D.int (i + t)) (l.map fun (t : Nat) => V.int (i + t)) := by
    intro l
    induction l with
    | nil => exact RVs.nil.mpr rfl
    | cons t l ih => exact RVs.mk RV.int ih
  exact gen _
theorem rngD_len (lo : Int) (n : Nat) : (rngD lo n).length = n := by unfold rngD; rw [List.length_map, List.length_range]
theorem se_lstR1 (hc : X.calm = true) (hg : Gl X "list") (hm : X.mg "list" = none) (hg2 : Gl X "range") (hm2 : X.mg "range" = none) (ha : SE X W fr2 a fa) (na : starEach [a] X.env = (false, eval a X.env) :: starEach [] X.env := by rfl)
    (na2 : starEach [.Call (.Name "range" p2) [a] [] pos2] X.env = (false, eval (.Call (.Name "range" p2) [a] [] pos2) X.env) :: starEach [] X.env := by rfl) : SE X W true (.Call (.Name "list" p) [.Call (.Name "range" p2) [a] [] pos2] [] pos) (eLstR gR1 (lCons fa lNil)) :=
  PE.imp (pe_listRg hc hg hm (prg_1 hg2 hm2 (seF ha) na) na2) fun σ H Q ⟨m, env, s, S, E, k⟩ => by
    have k' : KontG X.K X.mg (RD X.K X.mg true H) (fun c d H' => W c d σ H') m H ((fa env s).bind fun x s1 => (Res.of s1 (gR1 [x])).bind fun l s2 => .ok (.lst l) s2) Q := by
      have e : eLstR gR1 (lCons fa lNil) env s = (fa env s).bind fun x s1 => (Res.of s1 (gR1 [x])).bind fun l s2 => .ok (.lst l) s2 := by
        unfold eLstR lCons lNil
        cases fa env s <;> rfl
      rw [← e]; exact k
    refine ⟨m, env, s, S, E, (KontG.bind (R := RD X.K X.mg false H) k').imp fun x H1 ⟨dx, s1, m1, e1, A, k1⟩ => ?_⟩
    have k2 := k1.moveD A.st A.ph
    cases q : gR1 [dx] with
    | none => rw [q] at k2; exact k2.elim
    | some l =>
      rw [q] at k2
      unfold gR1 at q
      split at q
      · rename_i i hi
        cases hi
        split at q
        · rename_i h
          cases q
          have e0 : rngD 0 i.toNat = rngD 0 (i - 0).toNat := by rw [Int.sub_zero]
          refine ⟨i, A.rel.1.int', ⟨by omega, by omega, by omega, by omega, by omega⟩, fun t ht => ?_⟩
          refine k2.okG A.sim (Grw.new ht) ⟨?_, fun _ l a e1 e2 => ?_⟩
          · rw [e0]
            exact RV.newL A.sim (rgV_at 0 i) ht (by rw [rngD_len, size_lit]; omega)
          · cases e1
            cases e2
            refine ⟨Fr.of ht, A.sim.avNew (Grw.new ht) ht ⟨_, upd_same⟩, _, upd_same, ?_⟩
            rw [e0]
            exact rgV_at 0 i
        · cases q
      · cases q
end
end G

end
section
namespace G
open PySem PySem.Spec L2
open PyProof.Rows (envOfC)
variable [Tb]
section
variable {X : Cx} {W : WX} {fr cf fr2 fr3 fr4 : Bool} {e a b c : Expr} {es : List Expr} {fa fb fc : E} {gl : EL} {pos : Pos} {n : Nat}
theorem par_fin0 {K : PySem.W.Frag} {mg : Str → Option Value} {σ : L2.St} {H : Hp} {D : Ends} {is : List Nat} (h : tS K mg W fr cf (sPar is gl) D σ H) : tA K mg W n gl σ H fun vs H1 => ∃ m1 env ds s1, Sim K mg m1 s1 H1 ∧ EnvR K mg m1 H1 env σ ∧ RVs K mg m1 H1 ds vs ∧ ds.length = n ∧ KontS K mg W fr cf m1 H1 (.ok .nx (setsE is ds env) s1) D := by
  obtain ⟨m, env, s, S, E, k⟩ := h
  exact ⟨m, env, s, S, E, (KontS.st k E).imp fun vs H1 ⟨ds, s1, m1, e1, A, E1, k1⟩ => ⟨m1, env, ds, s1, A.sim, E1, A.rel.1, A.rel.2, k1⟩⟩
theorem ss_par0 {i j : Nat} {x y : Str} {px py pt : Pos} {kt k2 pt2} (hc : X.calm = true) (hN : X.N.Nodup) (hi : X.N[i]? = some x) (hj : X.N[j]? = some y) (hij : i ≠ j)
    (hx : X.env.scope.names.lookup x = some .local) (hy : X.env.scope.names.lookup y = some .local) (ha : SA X W 2 [a, b] gl)
    (hw : swappedStores [.Tuple [.Name x px, .Name y py] kt pt] (.Tuple [a, b] k2 pt2) X.env = pure (some [x, y]))
    (hs : swapsWithSole [.Tuple [.Name x px, .Name y py] kt pt] (.Tuple [a, b] k2 pt2) pos.line X.env = pure false := by rfl) : SS X W fr cf (.Assign [.Tuple [.Name x px, .Name y py] kt pt] (.Tuple [a, b] k2 pt2) pos) (sPar [i, j] gl) :=
  PS.imp (ps_par hc hN hi hj hij hx hy ha hw hs) fun D σ H h => by
    obtain ⟨m, env, s, S, E, k⟩ := par_fin0 (n := 2) h
    refine ⟨m, env, s, S, E, k.imp fun vs H1 ⟨m1, env1, ds1, s2, S1, E1, r1, l1, k1⟩ => ?_⟩
    match ds1, l1 with
    | [d1, d2], _ =>
      obtain ⟨v, w, ev, q1, q2⟩ := two r1
      exact ⟨v, w, ev, k1.nx S1 ((E1.set i q1).set j q2)⟩
theorem ss_par30 {i j l : Nat} {x y z : Str} {px py pz pt : Pos} {kt k2 pt2} (hc : X.calm = true) (hN : X.N.Nodup) (hi : X.N[i]? = some x) (hj : X.N[j]? = some y) (hl : X.N[l]? = some z) (hij : i ≠ j) (hil : i ≠ l) (hjl : j ≠ l)
    (hx : X.env.scope.names.lookup x = some .local) (hy : X.env.scope.names.lookup y = some .local) (hz : X.env.scope.names.lookup z = some .local) (ha : SA X W 3 [a, b, c] gl)
    (hw : swappedStores [.Tuple [.Name x px, .Name y py, .Name z pz] kt pt] (.Tuple [a, b, c] k2 pt2) X.env = pure (some [x, y, z]))
    (hs : swapsWithSole [.Tuple [.Name x px, .Name y py, .Name z pz] kt pt] (.Tuple [a, b, c] k2 pt2) pos.line X.env = pure false := by rfl) : SS X W fr cf (.Assign [.Tuple [.Name x px, .Name y py, .Name z pz] kt pt] (.Tuple [a, b, c] k2 pt2) pos) (sPar [i, j, l] gl) :=
  PS.imp (ps_par3 hc hN hi hj hl hij hil hjl hx hy hz ha hw hs) fun D σ H h => by
    obtain ⟨m, env, s, S, E, k⟩ := par_fin0 (n := 3) h
    refine ⟨m, env, s, S, E, k.imp fun vs H1 ⟨m1, env1, ds1, s2, S1, E1, r1, l1, k1⟩ => ?_⟩
    match ds1, l1 with
    | [d1, d2, d3], _ =>
      obtain ⟨v, r2, ev, q1, q2⟩ := RVs.cons.mp r1
      obtain ⟨w, u, ew, q3, q4⟩ := two q2
      exact ⟨v, w, u, by rw [ev, ew], k1.nx S1 (((E1.set i q1).set j q3).set l q4)⟩
theorem st_chain {op op' : CmpOp} {r r' : R2} {g g' : G2} (hg : OkOp X.K X.mg true r g) (hg' : OkOp X.K X.mg true r' g') (ha : SE X W fr2 a fa) (hb : SE X W fr3 b fb) (hc : SE X W fr4 c fc)
    (hch : ∀ {ta tb tc : TE}, PE X a ta → PE X b tb → PE X c tc → PT X (.Compare a [op, op'] [b, c] pos) (tTest (tChain r r' ta tb tc))) : ST X W (.Compare a [op, op'] [b, c] pos) (bVal (eChain g g' fa fb fc)) := PT.imp (hch (seF ha) (seF hb) (seF hc)) fun σ H Q h => by
  obtain ⟨m, env, s, S, E, k⟩ := tt_of h
  refine use2 (fr := false) S E k fun x y m2 H2 s2 dx dy st2 ph2 S2 E2 rx ry k2 => ?_
  have k3 := KontG.bind (R := RD X.K X.mg true H2) k2
  obtain ⟨d, e, q⟩ := fin_of S2 k3
  refine hg m2 s2 H2 x y dx dy d _ S2 rx ry e fun v H3 g3 r3 f3 => ?_
  obtain ⟨d', s3, m3, e3, A, k4⟩ := q v H3 g3 r3 f3
  have k5 := k4.moveD A.st A.ph
  cases d' with
  | bl c =>
    have er := A.rel.1.bl'
    subst er
    refine ⟨c, rfl, ?_⟩
    cases c with
    | true =>
      rw [if_pos rfl]
      refine ⟨m3, env, s3, A.sim, E2.mono A.st.wk, (KontG.bind (R := RD X.K X.mg false H3) k5).imp fun w H4 ⟨dw, s4, m4, e4, B, k6⟩ => ?_⟩
      obtain ⟨d4, e4, q4⟩ := fin_of B.sim (k6.moveD B.st B.ph)
      exact hg' m4 s4 H4 y w dy dw d4 _ B.sim (RV.mono B.st.wk _ _ (RV.mono A.st.wk _ _ ry)) B.rel.1 e4 fun v H' g r f => q4 v H' g r fun z => nomatch z
    | false =>
      rw [if_neg (by decide)]
      exact k5.ok A.sim ⟨RV.bl, fun _ _ _ z => nomatch z⟩
  | _ => exact k5.elim
/-- a built-in type as a value -/
theorem se_ty {x : Str} {T : String} (hg : Gl X x) (hm : X.mg x = none) (hv : bootBuiltins x = some (.type T)) (hn : x ≠ "__name__" := by decide) (hd : (x == ("__debug__" : Str)) = false := by decide) : SE X W true (.Name x pos) (eC (.ty T)) :=
  se_c (pe_bltn (v := .ty T) hg hm hv rfl hn hd) (fun _ _ => RV.ty) (.inr fun _ z => nomatch z)
end
end G
namespace G
open PySem PySem.Spec L2
open PyProof.Rows (envOfC)
variable [Tb]
/-- turns enough for Euclid's steps: by the slot's number -/
def wfuel (i : Nat) (env : Env) : Nat := match env[i]? with
  | some (some (.int n)) => n.toNat + 1
  | _ => 0
theorem units5 {k : Nat} {A : Around} (r : Room k A) : A.units + 65 < cLine := by have := r.un; omega
theorem cal_bad {P : Program} {w : World} {K : PySem.W.Frag} {mg : Str → Option Value} {base : Heap} {k : Nat} {x : Str} {n : Nat} {fr : Bool} {params : Arguments} {body : List Stmt} {scope : Scope} {ps : List Str}
    (h : ∃ f fd, FunD K x x params body scope [] [] f fd ∧ mg x = some (.ref f)) (hb : ∀ {f fd}, FunD K x x params body scope [] [] f fd → Binds K fd ps []) {G : Fun1} (hG : G = fun _ _ => .bad) : Cal P w K mg base k x n fr G := by
  obtain ⟨f, fd, F, hm⟩ := h
  subst hG
  refine ⟨f, fd, ps, ⟨fun vs H Q E ⟨m, ds, s, _, _, _, k⟩ => k.elim, fun A outer s H args us vs Q E hr e0 hb hv ⟨m, ds, s0, _, _, _, k⟩ => k.elim⟩, hm, F.kp, hb F⟩
end G

end
section
namespace HT
open PySem PyProof.Rows
open Sem (wp)
section
variable {prog : Program} {w : World} {A : Around} {E : Value → Shared → Prop} {s : Shared}
theorem rev_adjust (n : Nat) : Builtin.Slice.sliceAdjust none none (-1) (n : Int) = ((n : Int) - 1, -1) := rfl
theorem rev_places (n : Nat) : Builtin.Slice.slicePlaces ((n : Int) - 1) (-1) (-1) = n := by
  unfold Builtin.Slice.slicePlaces
  have h1 : ¬ ((-1 : Int) > 0) := by decide
  simp only [h1, if_false]
  split
  · have e : ((n : Int) - 1 - -1 - 1) / (- -1) + 1 = (n : Int) := by
      rw [show (- -1 : Int) = 1 by decide, Int.ediv_one]
      omega
    rw [e, Int.toNat_natCast]
  · have : n = 0 := by omega
    subst this
    rfl
theorem rev_pick (xs : Array Value) : ((List.range xs.size).filterMap fun (m : Nat) => xs[(((xs.size : Int) - 1) + (m : Int) * (-1)).toNat]?).toArray = xs.toList.reverse.toArray := by
  have e : ∀ n : Nat, n = xs.size → ((List.range n).filterMap fun (m : Nat) => xs[(((xs.size : Int) - 1) + (m : Int) * (-1)).toNat]?) = ((List.range n).map fun k => n - 1 - k).filterMap (xs[·]?) := by
    intro n hn
    rw [List.filterMap_map]
    have : ∀ l : List Nat, (∀ m ∈ l, m < n) → l.filterMap (fun (m : Nat) => xs[(((xs.size : Int) - 1) + (m : Int) * (-1)).toNat]?) = l.filterMap ((xs[·]?) ∘ fun k => n - 1 - k) := by
      intro l
      induction l with
      | nil => intro _; rfl
      | cons m l ih =>
        intro hl
        have h1 := hl m (List.mem_cons_self ..)
        have e1 : (((xs.size : Int) - 1) + (m : Int) * (-1)).toNat = n - 1 - m := by omega
        have e2 := ih fun z hz => hl z (List.mem_cons_of_mem _ hz)
        simp only [List.filterMap_cons, e1, e2, Function.comp]
    exact this _ fun m hm => List.mem_range.mp hm
  rw [e xs.size rfl, PySem.W.krv_range, List.filterMap_reverse, PySem.W.krv_all]
theorem sliceApplied_rev {sl : Addr} {vl vu vs : Value} {n : Nat} {Q : Int × Int × Nat → Shared → Prop} (hs : s.heap.IsSliceOf sl vl vu vs) (pl : IsPart vl none) (pu : IsPart vu none) (ps : IsPart vs (some (-1)))
    (h : Q ((n : Int) - 1, -1, n) s) : wpAny (model prog w) A (Builtin.Slice.sliceApplied (.ref sl) (pure (n : Int))) Q E s := by
  obtain ⟨os, hos, hcs, hds⟩ := id hs
  unfold Builtin.Slice.sliceApplied Builtin.Slice.sliceFields
  refine wpAny_bind (wpAny_bind (wpAny_field hos hds (x := vl) rfl (wpAny_bind (wpAny_field hos hds (x := vu) rfl (wpAny_bind (wpAny_field hos hds (x := vs) rfl (wpAny_pure ?_)))))))
  refine wpAny_bind (slicePart_ ps ?_)
  show wpAny _ _ (if ((-1 : Int) == 0) = true then _ else _) _ _ s
  rw [if_neg (by decide)]
  refine wpAny_bind (slicePart_ pl (wpAny_bind (slicePart_ pu (wpAny_bind (wpAny_pure ?_)))))
  show wpAny _ _ (match Builtin.Slice.sliceAdjust none none (-1) (n : Int) with | (lo, hi) => pure (lo, (-1 : Int), Builtin.Slice.slicePlaces lo hi (-1))) _ _ s
  rw [rev_adjust]
  show wpAny _ _ (pure ((n : Int) - 1, (-1 : Int), Builtin.Slice.slicePlaces ((n : Int) - 1) (-1) (-1))) _ _ s
  rw [rev_places]
  exact wpAny_pure h
theorem getItem_tuple_rev {t sl : Addr} {items : Array Value} {vl vu vs : Value} {Q : Value → Shared → Prop} (ht : IsTup s.heap t items) (hs : s.heap.IsSliceOf sl vl vu vs) (pl : IsPart vl none) (pu : IsPart vu none) (ps : IsPart vs (some (-1)))
    (h : Q (.ref s.heap.objs.size) { s with heap := s.heap.push { cls := .type "tuple", data := .seq items.toList.reverse.toArray } })
    (hsz : items.size ≤ sizeLine) : wpAny (model prog w) A (getItem (.ref t) (.ref sl)) Q E s := by
  have htake : sizeOk (.seq items.toList.reverse.toArray) := by
    show items.toList.reverse.toArray.size ≤ sizeLine
    rw [List.size_toArray, List.length_reverse, Array.length_toList]
    omega
  obtain ⟨os, hos, hcs, hds⟩ := id hs
  have hTs : s.TypeIs (.ref sl) "slice" := ⟨os, hos, hcs⟩
  unfold getItem
  try with_reducible refine wpAny_holding ?_
  first | refine wpAny_bind (wpAny_pure ?_) | skip
  refine wpAny_bind (wpAny_sequenceKey ht.typeIs (by decide) ?_)
  refine wpAny_bind (wpAny_callSpecial?_slot (name := Str.ofString "__getitem__") ht.typeIs PyProof.Rows.slot_tuple_getitem
    (wpAny_call_entry PyProof.Rows.slot_tuple_getitem ht.typeIs entry_tuple_getitem ?_ (args_tuple_getitem _ _)))
  show wpAny _ _ (Builtin.Tuple.tupleItemsOf (.ref t) >>= _) _ _ s
  refine wpAny_bind (tupleItemsOf_ ht ?_)
  refine wpAny_bind (wpAny_typeOf hTs ?_)
  rw [if_pos (by decide)]
  refine wpAny_bind (sliceApplied_rev hs pl pu ps ?_)
  have hno : ¬ (((((items.size : Int) - 1) == 0 && (-1 : Int) == 1 && items.size == items.size)) = true) := by
    intro q
    rw [Bool.and_eq_true, Bool.and_eq_true] at q
    exact absurd q.1.2 (by decide)
  show wpAny _ _ (if ((((items.size : Int) - 1) == 0 && (-1 : Int) == 1 && items.size == items.size)) = true then _ else _) _ _ s
  rw [if_neg hno, rev_pick]
  first
    | exact wpAny_bind (m := Builtin.Tuple.tupleExact _) (wpAny_newObj_type (wpAny_pure ⟨_, rfl, wpAny_pure h⟩) htake)
    | exact wpAny_bind (m := Builtin.Tuple.tupleExact _) (wpAny_newObj_type (wpAny_bind (wpAny_pure (wpAny_pure ⟨_, rfl, wpAny_pure h⟩))) htake)
    | exact wpAny_bind (wpAny_bind (m := Builtin.Tuple.tupleExact _) (wpAny_newObj_type (wpAny_pure (wpAny_pure ⟨_, rfl, wpAny_pure h⟩)) htake))
    | exact wpAny_bind (wpAny_bind (m := Builtin.Tuple.tupleExact _) (wpAny_newObj_type (wpAny_pure ⟨_, rfl, wpAny_pure h⟩) htake))
end
end HT
namespace G
open PySem PySem.Spec L2
open PyProof.Rows
variable [Tb]
section
variable {X : Cx} {W : WX} {fr cf fr2 fr3 fr4 : Bool} {e a b c : Expr} {es : List Expr} {fa fb fc : E} {gl : EL} {pos : Pos} {n : Nat}
def tRevA (K : PySem.W.Frag) (te : TE) : TE := fun σ H Q => te σ H fun x H1 => ∃ a xs, x = .ref a ∧ ((SqL K H1 a xs ∧ ∀ p, H1 p = none → Q (.ref p) (upd H1 p (.lst xs.reverse))) ∨ (SqT K H1 a xs ∧ ∀ p, H1 p = none → Q (.ref p) (upd H1 p (.tup xs.reverse))))
theorem pe_revA {te : TE} {k : Nat} {p1 p2 p3 : Pos} (he : PE X e te) : PE X (.Subscript e (.Slice none none (some (.UnaryOp .USub (.Constant (.int 1) k p1) p2)) p3) pos) (tRevA X.K te) := by
  refine ⟨fun pins s σ H Q I h => ?_⟩
  refine Subscript_ (thn (he.run pins s σ H _ I h) fun v s1 ⟨x, H1, I1, r1, q1⟩ => ?_)
  obtain ⟨a, xs, ex, hx⟩ := q1
  subst ex
  cases r1
  have hst : PO X (some (.UnaryOp .USub (.Constant (.int 1) k p1) p2)) (tPart (tUn (rU fun i => .int (-i)) (tC (.int 1)))) := po_some (pe_un un_neg pe_int)
  refine wpAny_Slice (thn (po_none.run pins s1 σ H1 (fun o H2 => o = none ∧ H2 = H1) I1 ⟨rfl, rfl⟩) fun vl s2 ⟨l, H2, I2, pl, el, e2⟩ => ?_)
  subst el e2
  refine thn (po_none.run pins s2 σ H2 (fun o H3 => o = none ∧ H3 = H2) I2 ⟨rfl, rfl⟩) fun vu s3 ⟨u, H3, I3, pu, eu, e3⟩ => ?_
  subst eu e3
  refine thn (hst.run pins s3 σ H3 (fun o H4 => o = some (-1) ∧ H4 = H3) I3 ⟨1, rfl, -1, rfl, rfl, rfl⟩) fun vs s4 ⟨o, H4, I4, ps, eo, e4⟩ => ?_
  subst eo e4
  have I5 : Inv X pins σ H4 { s4 with heap := s4.heap.push { cls := .type "slice", data := .fields #[vl, vu, vs] } } := I4.kept (t' := s4.toks) fun b ob q => Heap.get?_push_of_some _ q
  show wpAny (model X.prog X.w) X.A (subscriptTail e (.Slice none none (some (.UnaryOp .USub (.Constant (.int 1) k p1) p2)) p3) (.ref a) (.ref s4.heap.objs.size)) (EP X pins σ Q) X.xe { s4 with heap := s4.heap.push { cls := .type "slice", data := .fields #[vl, vu, vs] } }
  rcases hx with ⟨hx, q⟩ | ⟨hx, q⟩
  · obtain ⟨its, r, ht, hz⟩ := I5.list hx
    have hlen := r.length
    refine tail_any (ops := [.ref a, .ref s4.heap.objs.size]) ht.isList.typeIs (PySem.slot_list_getitem.lookup) ?_ (by with_unfolding_all rfl)
    refine wpAny_getItem_list_slice ht.isList (Heap.IsSliceOf.new _ vl vu vs) pl pu ps (by decide) ?_ (by rw [List.size_toArray]; omega)
    rw [PySem.W.krv_pick]
    refine ⟨.ref _, _, I5.laid (t' := s4.toks) (o := .lst xs.reverse) (fun b ob q => Heap.get?_push_of_some _ q) (Nat.le_refl _) ?_, rfl, q _ (I5.hok.fresh (Nat.le_refl _))⟩
    exact ⟨by rw [List.length_reverse]; exact hz, _, 0, r.reverse, Heap.get?_push_size _ rfl⟩
  · obtain ⟨its, r, ht, hz⟩ := I5.tuple hx
    have hlen := r.length
    refine tail_any (ops := [.ref a, .ref s4.heap.objs.size]) ht.typeIs (PyProof.Rows.slot_tuple_getitem.lookup) ?_ (by with_unfolding_all rfl)
    refine HT.getItem_tuple_rev ht (Heap.IsSliceOf.new _ vl vu vs) pl pu ps ?_ (by rw [List.size_toArray]; omega)
    refine ⟨.ref _, _, I5.laid (t' := s4.toks) (o := .tup xs.reverse) (fun b ob q => Heap.get?_push_of_some _ q) (Nat.le_refl _) ?_, rfl, q _ (I5.hok.fresh (Nat.le_refl _))⟩
    exact ⟨by rw [List.length_reverse]; exact hz, _, r.reverse, IsTup.new _ _⟩
def dRev : Sto → D → Option D := fun s x => match x with
  | .tup l => some (.tup l.reverse)
  | .lst l => some (.lst l.reverse)
  | _ => none
theorem se_rev {k : Nat} {p1 p2 p3 : Pos} (he : SE X W fr2 e fa) : SE X W true (.Subscript e (.Slice none none (some (.UnaryOp .USub (.Constant (.int 1) k p1) p2)) p3) pos) (eUn dRev fa) := PE.imp (pe_revA (seF he)) fun σ H Q ⟨m, env, s, S, E, k0⟩ => by
  refine ⟨m, env, s, S, E, (KontG.bind (R := RD X.K X.mg false H) k0).imp fun x H1 ⟨dx, s1, m1, e1, A, k1⟩ => ?_⟩
  obtain ⟨d, q1, q⟩ := fin_of A.sim (k1.moveD A.st A.ph)
  have q' : ∀ v H', Grw H1 H' → RV X.K X.mg m1 H' d v → (∀ l, d = .lst l → NewL X.K X.mg m1 H1 H' l v) → Q v H' := fun v H' g r f => q v H' g r fun _ => f
  unfold dRev at q1
  split at q1
  · cases q1
    obtain ⟨p, vs, e2, h1, z1, r1⟩ := A.rel.1.tup'
    exact ⟨p, vs, e2, .inr ⟨SqT.of h1, fun t ht => fin_tup r1.reverse (by rw [List.length_reverse]; exact z1) ht q'⟩⟩
  · cases q1
    obtain ⟨p, vs, e2, h1, _, _, z1, r1⟩ := A.rel.1.lst'
    exact ⟨p, vs, e2, .inl ⟨SqL.of h1, fun t ht => fin_lst A.sim r1.reverse (by rw [List.length_reverse]; exact z1) ht q'⟩⟩
  · cases q1
/-! ints and truths -/
def bi (b : Bool) : Int := if b = true then 1 else 0
def dAddB : G2 := fun s x y => match x, y with
  | .bl b, .int j => some (.int (bi b + j))
  | _, _ => dAdd s x y
def dSubB : G2 := fun s x y => match x, y with
  | .bl b, .int j => some (.int (bi b - j))
  | _, _ => dSub s x y
def dNegB : Sto → D → Option D := fun s x => match x with
  | .bl b => some (.int (-(bi b)))
  | _ => dNeg s x
def rBI (f : Bool → Int → Int) : R2 := fun x y H Q => ∃ b j, x = .bl b ∧ y = .int j ∧ Q (.int (f b j)) H
theorem op_addB : OpR X (binaryOp .Add) (fun x y H Q => rBI (fun b j => bi b + j) x y H Q ∨ rAddAll X.K x y H Q) := OpR.or (by
  intro pins s σ H x y v u Q I rx ry ⟨b, j, e1, e2, q⟩
  subst e1 e2
  cases rx
  obtain ⟨t, rfl⟩ := ry
  exact PySem.IntBool.add_bool_int ⟨.int _, H, I.tok _, ⟨_, rfl⟩, q⟩) op_addAll
theorem op_subB : OpR X (binaryOp .Sub) (fun x y H Q => rBI (fun b j => bi b - j) x y H Q ∨ rI0 (fun i j => .int (i - j)) x y H Q) := OpR.or (by
  intro pins s σ H x y v u Q I rx ry ⟨b, j, e1, e2, q⟩
  subst e1 e2
  cases rx
  obtain ⟨t, rfl⟩ := ry
  exact PySem.IntBool.sub_bool_int ⟨.int _, H, I.tok _, ⟨_, rfl⟩, q⟩) op_sub
theorem neg_bool {prog : Program} {w : World} {A : Around} {E : Value → Shared → Prop} {s : Shared} {b : Bool} {Q : Value → Shared → Prop} (h : Q (.int (-(bi b)) s.toks) { s with toks := s.toks + 1 }) : wpAny (model prog w) A (unaryOp .USub (.bool b)) Q E s := by
  unfold unaryOp
  refine wpAny_holding ?_
  refine wpAny_bind (m := callSpecial? (.bool b) (Str.ofString "__neg__")) (wpAny_callSpecial?_slot (T := "bool") (name := Str.ofString "__neg__") rfl PySem.F.slot_bool_neg
    (wpAny_call_entry PySem.F.slot_bool_neg (T := "bool") rfl PyProof.Rows.entry_int_neg ?_ (PyProof.Rows.args_int_neg _)))
  show wpAny _ _ (do ret (← mkInt (-(bi b)))) _ _ s
  exact wpAny_ret_mkInt (wpAny_pure h)
theorem un_negB : UnR X (unaryOp .USub) (fun x H Q => (∃ b, x = .bl b ∧ Q (.int (-(bi b))) H) ∨ rU (fun i => .int (-i)) x H Q) := by
  intro pins s σ H x v Q I rx h
  rcases h with ⟨b, e1, q⟩ | h
  · subst e1
    cases rx
    exact neg_bool ⟨.int _, H, I.tok _, ⟨_, rfl⟩, q⟩
  · exact un_neg pins s σ H x v Q I rx h
section
variable {K : PySem.W.Frag} {mg : Str → Option Value}
theorem ok_addB : OkOp K mg true (fun x y H Q => rBI (fun b j => bi b + j) x y H Q ∨ rAddAll K x y H Q) dAddB := by
  intro m s H x y dx dy d Q S rx ry e k
  unfold dAddB at e
  split at e
  · cases e
    exact .inl ⟨_, _, rx.bl', ry.int', k _ _ Grw.refl RV.int fun _ _ z => nomatch z⟩
  · exact .inr (ok_add m s H x y dx dy d Q S rx ry e k)
theorem ok_subB : OkOp K mg true (fun x y H Q => rBI (fun b j => bi b - j) x y H Q ∨ rI0 (fun i j => .int (i - j)) x y H Q) dSubB := by
  intro m s H x y dx dy d Q S rx ry e k
  unfold dSubB at e
  split at e
  · cases e
    exact .inl ⟨_, _, rx.bl', ry.int', k _ _ Grw.refl RV.int fun _ _ z => nomatch z⟩
  · exact .inr (ok_sub m s H x y dx dy d Q S rx ry e k)
theorem ok_negB : OkU K mg true (fun x H Q => (∃ b, x = .bl b ∧ Q (.int (-(bi b))) H) ∨ rU (fun i => .int (-i)) x H Q) dNegB := by
  intro m s H x dx d Q S rx e k
  unfold dNegB at e
  split at e
  · cases e
    exact .inl ⟨_, rx.bl', k _ _ Grw.refl RV.int fun _ _ z => nomatch z⟩
  · exact .inr (ok_neg m s H x dx d Q S rx e k)
def mUpper : GM := fun s o ds => match o, ds with
  | .str z, [] => if z.length ≤ 5592405 then some (.str (Txt.upper z), s) else none
  | _, _ => none
theorem ok_upper : OkM K mg "str" (fun x xs H Q => ∃ a, x = .str a ∧ xs = [] ∧ a.length ≤ 5592405 ∧ Q (.str (Txt.upper a)) H) mUpper := by
  intro m s H x xs dx ds p Q S rx rs e k
  unfold mUpper at e
  split at e
  · split at e
    · rename_i h
      cases e
      exact ⟨_, rx.str', RVs.nil.mp rs, h, k _ _ Stp.refl S RV.str⟩
    · cases e
  · cases e
end
/-! not x, x of any kind that has a truth here -/
def truD : D → Option Bool
  | .non => some false
  | .bl b => some b
  | .int i => some (i != 0)
  | .tup l => some (!l.isEmpty)
  | .lst l => some (!l.isEmpty)
  | _ => none
def eNotT (a : E) : E := fun env s => (a env s).bind fun x s1 => Res.of s1 ((truD x).map fun b => .bl (!b))
theorem RVs.isEmpty {K : PySem.W.Frag} {mg : Str → Option Value} {m : WM} {H : Hp} {ds : List D} {vs : List V} (h : RVs K mg m H ds vs) : vs.isEmpty = ds.isEmpty := by
  have := h.length
  cases ds <;> cases vs <;> simp_all
theorem truV_of {K : PySem.W.Frag} {mg : Str → Option Value} {m : WM} {H : Hp} {d : D} {v : V} {b : Bool} (r : RV K mg m H d v) (e : truD d = some b) : TruV K v H b := by
  unfold truD at e
  split at e
  · cases e; rw [r.non']; rfl
  · cases e; rw [r.bl']; rfl
  · cases e; rw [r.int']; rfl
  · cases e
    obtain ⟨p, vs, e2, h1, z1, r1⟩ := r.tup'
    subst e2
    exact .inr (.inl ⟨vs, SqT.of h1, by rw [r1.isEmpty]⟩)
  · cases e
    obtain ⟨p, vs, e2, h1, _, _, z1, r1⟩ := r.lst'
    subst e2
    exact .inl ⟨vs, SqL.of h1, by rw [r1.isEmpty]⟩
  · cases e
theorem se_notT (ha : SE X W fr2 a fa) : SE X W true (.UnaryOp .Not a pos) (eNotT fa) := PE.imp (pe_notT (seF ha)) fun σ H Q ⟨m, env, s, S, E, k⟩ => by
  refine ⟨m, env, s, S, E, (KontG.bind (R := RD X.K X.mg false H) k).imp fun x H1 ⟨dx, s1, m1, e1, A, k1⟩ => ?_⟩
  obtain ⟨d, q1, q⟩ := fin_of A.sim (k1.moveD A.st A.ph)
  cases q2 : truD dx with
  | none => rw [q2] at q1; cases q1
  | some b =>
    rw [q2] at q1
    cases q1
    exact ⟨b, truV_of A.rel.1 q2, q _ _ Grw.refl RV.bl fun _ _ z => nomatch z⟩
theorem st_cmpA {op : CmpOp} {r : R2} {g : G2} (ho : OpR X (compareOp op) r) (hg : OkOp X.K X.mg fr r g) (ha : SE X W fr2 a fa) (hb : SE X W fr3 b fb) (hm : behindInMarks op b = false) : ST X W (.Compare a [op] [b] pos) (bVal (eOp g fa fb)) :=
  st_cmp ho (fun m s H x y dx dy d Q S rx ry e k => hg m s H x y dx dy d Q S rx ry e fun v H' g r f => k v H' g r fun z => nomatch z) ha hb hm
end
end G

end
section
namespace G
open PySem PySem.Spec L2
open PyProof.Rows (envOfC)
variable [Tb]
/-! ### the head's own -/
def CXP (P : Program) : L2.CXT := fun outer H s E u s' => ∃ w, L2.CX P w outer H s E u s'
theorem cxp_no {P : Program} (H : Hp) (s : Shared) (e : Value) (s' : Shared) (h : CXP P [] H s (fun _ _ _ => False) e s') : False := by
  obtain ⟨w, h⟩ := h
  unfold L2.CX at h
  obtain ⟨_, _, _, _, _, h⟩ := h
  exact h.2.2.2.2.2.2.2
theorem fn_cxp {P : Program} {w : World} {K : PySem.W.Frag} {mg : Str → Option Value} {base : Heap} {k : Nat} {f : Addr} {fd : FuncData} {ps : List Str} {sp : Sp} (F : FnOk P w K mg base (L2.CX P w) k f fd ps sp) : FnOk P w K mg base (CXP P) k f fd ps sp :=
  ⟨F.len, fun A outer s H args us vs Q E hr he hb hv hs => codeAny_mono (F.run A outer s H args us vs Q E hr he hb hv hs) fun r s' h => by
    cases r with
    | ok x => cases x <;> exact h
    | error e => exact ⟨w, h⟩⟩
theorem only_scr {K : PySem.W.Frag} {H : Hp} {a : Addr} {xs : List V} (hO : Only H) (h : SqL K H a xs) : ScrAt K H a xs := by
  rcases h with ⟨h | ⟨o, h⟩⟩ | h
  · rcases hO a with q | ⟨o, ys, q⟩
    · rw [q] at h; cases h
    · rw [q] at h; cases h
  · exact .inl ⟨o, h⟩
  · exact .inr (.inr h)
theorem scr_of {K : PySem.W.Frag} {H : Hp} {a : Addr} {xs : List V} (h : SqL K H a xs) : ScrAt K H a xs ∨ (H a = some (.lst xs) ∧ a ∉ ({} : WM).phi ∧ a ∉ ({} : WM).av) := by
  rcases h with ⟨h | ⟨o, h⟩⟩ | h
  · exact .inr ⟨h, (by intro z; cases z), (by intro z; cases z)⟩
  · exact .inl (.inl ⟨o, h⟩)
  · exact .inl (.inr (.inr h))
theorem sp_of {K : PySem.W.Frag} {mg : Str → Option Value} {fr : Bool} {F : Fun1} (hF : ∀ ns : List Int, ns.length ≤ 63 → ∃ s, F [.scr ns] {} = .ok (.bl true) s) (H : Hp) (a : Addr) (ns : List Int) (hl : ns.length ≤ 63) (hT : LamX.Tabs (Tb.T K) H) (hS : SqL K H a (ns.map V.int)) : spD K mg 1 fr F [.ref a] H (fun v _ => v = .bl true) fun _ _ _ => False := by
  obtain ⟨s1, e⟩ := hF ns hl
  refine ⟨{}, [.scr ns], {}, ⟨rfl, List.nodup_nil, fun n a xs h => (by cases h), fun a h => (by cases h), rfl, fun n p o h => (by cases h), List.nodup_nil, hT⟩, RVs.mk ?_ (RVs.nil.mpr rfl), rfl, ?_⟩
  · unfold RV
    exact ⟨a, rfl, Nat.le_trans hl (by decide), scr_of hS⟩
  · rw [e]
    intro v m' H' _ _ _ r
    exact r.1.bl'
end G

end
section
namespace G
open PySem PySem.Spec L2
open PyProof.Rows (envOfC)
variable [Tb]
/-! ### a call of a local name that holds a def -/
def valAt (i : Nat) (env : Env) : Option Str := match env[i]? with
  | some (some (.fn x)) => some x
  | _ => none
def eCallV (i : Nat) (tbl : List (Str × Fun1)) (gl : EL) : E := fun env s => match (valAt i env).bind fun y => tbl.lookup y with
  | some F => (gl env s).bind F
  | none => .bad
section
variable {X : Cx} {W : WX} {fr cf fr2 fr3 : Bool} {e : Expr} {es : List Expr} {fa : E} {gl : EL} {pos : Pos} {n k i : Nat}
theorem se_callV {x : Str} {p : Pos} {tbl : List (Str × Fun1)} (A : ∀ y F, tbl.lookup y = some F → Cal X.prog X.w X.K X.mg X.base k y n fr F) (hr : Room k X.A) (tk : Takes X W) (hW : ∀ c d σ σ' H, W c d σ H → W c d σ' H) (hN : X.N[i]? = some x) (hv : Vis X.env.scope x) (ha : SA X W n (e :: es) gl) (hdb : (x == ("__debug__" : Str)) = false := by decide) (hcd : (x == ("__classdict__" : Str)) = false := by decide)
    (he : starEach (e :: es) X.env = (false, eval e X.env) :: starEach es X.env := by rfl) (hpl : (backTo pos (starEach es X.env)).any (·.1) = false := by rfl) : SE X W fr (.Call (.Name x p) (e :: es) [] pos) (eCallV i tbl gl) := by
  refine ⟨fun pins s σ H Q I h => ?_⟩
  obtain ⟨m, env, s0, S, E, kk⟩ := h
  unfold eCallV at kk
  cases q : (valAt i env).bind fun y => tbl.lookup y with
  | none => rw [q] at kk; exact kk.elim
  | some F =>
    rw [q] at kk
    obtain ⟨y, hy, hF⟩ := Option.bind_eq_some_iff.mp q
    have hfn : env[i]? = some (some (.fn y)) := by
      unfold valAt at hy
      split at hy
      · rename_i z; cases hy; exact z
      · cases hy
    obtain ⟨v, hs, rv⟩ := E.2 i _ hfn
    obtain ⟨f, fd, ps, ok, hm, hk, hb⟩ := A y F hF
    unfold RV at rv
    obtain ⟨f', ev, hm'⟩ := rv
    rw [hm] at hm'
    cases hm'
    subst ev
    refine (pe_callL (i := i) (f := f) (E := WE W σ) (dvs := []) ok hr hN hv hk hb .nil (passes_call tk fun c d σ' H' z => hW c d σ σ' H' z) ha hdb hcd he hpl).run pins s σ H Q I ⟨hs, ?_⟩
    refine ⟨m, env, s0, S, E, (KontG.bind kk).imp fun xs H1 ⟨dxs, s1, m1, e1, A1, k1⟩ => ?_⟩
    refine ⟨m1, dxs, s1, A1.sim, ?_, A1.rel.2, k1.moveD A1.st A1.ph⟩
    rw [List.append_nil]
    exact A1.rel.1
/-! ### a def that calls what it got, and tells of the exceptions -/
def pickX : List (Str × Str) → Xn → Sto → Res D
  | [], _, _ => .bad
  | (n, r) :: l, x, s => if x.cls = n then .ok (.str r) s else pickX l x s
def tellX (hs : List (Str × Str)) (fin : Option Str) (th : Sto → Res D) : Sto → Res D := fun s => match th s with
  | .ok d s' => (match fin with
    | some r => .ok (.str r) s'
    | none => .ok d s')
  | .err x s' => pickX hs x s'
  | .bad => .bad
def eLam (hs : List (Str × Str)) (fin : Option Str) (f : E) : E := fun env s => tellX hs fin (f env) s
/-- what is wished of an exception -/
def chainE (K : PySem.W.Frag) (Q : VK) : List (Addr × Str) → XK
  | [] => fun _ _ _ => False
  | (c, r) :: l => fun cls d H => ∃ b, PySem.W.exmOne K cls (.ref c) = some b ∧ (b = true → Q (.str r) H) ∧ (b = false → chainE K Q l cls d H)
def hdsL (hs : List (Addr × Str)) : List (Value × (Addr → Value → Option Addr → TS)) := hs.map fun p => (.ref p.1, fun _ _ _ => tRet (tC (.str p.2)))
theorem chain_many {K : PySem.W.Frag} {Wout : WX} {D : Ends} : ∀ {hs : List (Addr × Str)} {cls : Value} {d : Option Addr} {σ : L2.St} {H : Hp}, chainE K D.rt hs cls d H → wMany K Wout D (hdsL hs) cls d σ H
  | [], _, _, _, _, h => h.elim
  | (c, r) :: l, cls, d, σ, H, h => by
    obtain ⟨b, e, h1, h2⟩ := h
    exact ⟨b, e, fun hb a _ => h1 hb, fun hb => chain_many (h2 hb)⟩
def TTx (K : PySem.W.Frag) (hs : List (Addr × Str)) (fin : Option Str) : (XK → Hp → VK → Prop) → Hp → VK → Prop := fun tl H Q =>
  tl (chainE K Q hs) H (match fin with
    | some r => fun _ H' => Q (.str r) H'
    | none => Q)
theorem tells_ret {Ng : List Str} {x a q : Str} {sg : Scope} {g : Addr} {cdg : Value} {hd : ExceptHandler} {hds : List ExceptHandler} {hs : List (Addr × Str)} {p1 p2 p3 p8 : Pos}
    (hh : ∀ s H, HdsOk (cxOf C8.CX0 X.prog X.w X.K X.mg X.base Ng x sg g cdg X.A X.stack s H C8.E0).nox (hd :: hds) (hdsL hs)) (h0 : ∀ f : Addr, (L2.start Ng [V.ref f])[0]? = some (some (V.ref f))) :
    LamX.GivesTo X Ng x sg g cdg [.Try [.Return (some (.Call (.Name a p1) [] [] p2)) p3] (hd :: hds) [] [] p8] a q (TTx X.K hs none) := by
  intro f c' s H Q tl act hc h
  refine ⟨_, pss_one (ps_try_many (X := (cxOf C8.CX0 X.prog X.w X.K X.mg X.base Ng x sg g cdg X.A X.stack s H C8.E0).nox) (l := hdsL hs)
      (tb := fun W D σ H => ∃ Ech : XK, (∀ cls d σ' H', Ech cls d H' → W cls d σ' H') ∧ σ[0]? = some (some (.ref f)) ∧ H c' = some (LamX.CodeO c' q) ∧ tl Ech H D.rt)
      rfl rfl LamX.takes0 (fun W pn xe tk _ => ?_) (hh s H)), ?_⟩
  · refine ⟨fun pins s' σ H' D I h' => ?_⟩
    obtain ⟨Ech, hW, h1, h2, h3⟩ := h'
    have hp := act W pn xe Ech p1 p2 tk hW
    have hq := pss_one (ps_ret (pos := p3) hp)
    exact hq.run pins s' σ H' D I ⟨h1, h2, h3⟩
  · exact ⟨chainE X.K Q hs, fun cls d σ' H' z => chain_many (D := { nx := fun _ H' => Q .non H', rt := Q }) z, h0 f, hc, h⟩
theorem tells_fin {Ng : List Str} {x a q fin : Str} {j : Nat} {sg : Scope} {g : Addr} {cdg : Value} {hd : ExceptHandler} {hds : List ExceptHandler} {hs : List (Addr × Str)} {p1 p2 p3 p5 p6 p8 : Pos}
    (hh : ∀ s H, HdsOk (cxOf C8.CX0 X.prog X.w X.K X.mg X.base Ng x sg g cdg X.A X.stack s H C8.E0).nox (hd :: hds) (hdsL hs)) (h0 : ∀ f : Addr, (L2.start Ng [V.ref f])[0]? = some (some (V.ref f))) :
    LamX.GivesTo X Ng x sg g cdg [.Try [.Expr (.Call (.Name a p1) [] [] p2) p3] (hd :: hds) [] [] p8, .Return (some (.Constant (.str fin) j p5)) p6] a q (TTx X.K hs (some fin)) := by
  intro f c' s H Q tl act hc h
  refine ⟨_, pss_cons (ps_try_many (X := (cxOf C8.CX0 X.prog X.w X.K X.mg X.base Ng x sg g cdg X.A X.stack s H C8.E0).nox) (l := hdsL hs)
      (tb := fun W D σ H => ∃ Ech : XK, (∀ cls d σ' H', Ech cls d H' → W cls d σ' H') ∧ σ[0]? = some (some (.ref f)) ∧ H c' = some (LamX.CodeO c' q) ∧ tl Ech H (fun _ H' => D.nx σ H'))
      rfl rfl LamX.takes0 (fun W pn xe tk _ => ?_) (hh s H)) (pss_one (ps_ret pe_str)), ?_⟩
  · refine ⟨fun pins s' σ H' D I h' => ?_⟩
    obtain ⟨Ech, hW, h1, h2, h3⟩ := h'
    have hp := act W pn xe Ech p1 p2 tk hW
    have hq := pss_one (ps_expr (pos := p3) hp (by rfl))
    exact hq.run pins s' σ H' D I ⟨h1, h2, h3⟩
  · refine ⟨chainE X.K Q hs, fun cls d σ' H' z => chain_many (D := { nx := fun σ H' => tRet (tC (.str fin)) { nx := fun _ H' => Q .non H', rt := Q } σ H', rt := Q }) z, h0 f, hc, h⟩
end
end G

end
section
namespace G
open PySem PySem.Spec L2
open PyProof.Rows (envOfC)
variable [Tb]
def tellK (known : List Str) (hs : List (Str × Str)) (fin : Option Str) (th : Sto → Res D) : Sto → Res D := fun s => match th s with
  | .ok d s' => (match fin with
    | some r => .ok (.str r) s'
    | none => .ok d s')
  | .err x s' => if x.cls ∈ known then pickX hs x s' else .bad
  | .bad => .bad
def eLamK (known : List Str) (hs : List (Str × Str)) (fin : Option Str) (f : E) : E := fun env s => tellK known hs fin (f env) s
/-- the classes' names, told at the written part -/
structure Clss (K : PySem.W.Frag) (mg : Str → Option Value) (known : List Str) (hs : List (Str × Str)) (hsA : List (Addr × Str)) : Prop where
  at_ : hsA = hs.map fun p => (He.ga K p.1, p.2)
  exm : ∀ y ∈ known, ∀ p ∈ hs, ∀ C, mg y = some (.ref C) → PySem.W.exmOne K (.ref C) (.ref (He.ga K p.1)) = some (decide (y = p.1))
section
variable {K : PySem.W.Frag} {mg : Str → Option Value} {m m' : WM} {s s' : Sto} {H H1 H' : Hp} {Q : VK}
theorem ext_stp (e : LamX.ExtN H H1) : Stp m H m H1 :=
  ⟨⟨[], by simp⟩, ⟨[], by simp⟩, rfl, fun a xs h => e a _ h (fun ps z => by cases z), fun a xs h _ => e a _ h (fun ps z => by cases z), fun a o u h => e a _ h (fun ps z => by cases z), fun a h o q => by
    by_cases hq : ∃ ps, o = .tbl ps
    · exact hq
    · exact h o (e a o q fun ps z => hq ⟨ps, z⟩)⟩
theorem Sim.ext (S : Sim K mg m s H) (e : LamX.ExtN H H1) (hT : LamX.Tabs (Tb.T K) H1) : Sim K mg m s H1 := by
  have st : Stp m H m H1 := ext_stp e
  refine ⟨S.cl, S.nd, fun n a xs e1 e2 => ?_, fun a h => ⟨(S.al a h).1, fun z => (S.al a h).2 (st.dom a z)⟩, S.ol, fun n p o e1 e2 => ?_, S.on, hT⟩
  · obtain ⟨h0, hz, vs, h1, h2⟩ := S.ce n a xs e1 e2
    exact ⟨h0, hz, vs, e _ _ h1 (fun ps z => by cases z), RVs.mono st.wk _ _ h2⟩
  · exact (S.ob n p o e1 e2).keep st.wk fun u h r => e _ _ h (fun ps z => r.tbl z)
theorem pick_chain {known : List Str} {x : Xn} {C : Addr} {dx : Option Addr} {fr : Bool} {H0 : Hp} {W : XK} (hk : x.cls ∈ known) (hm : mg x.cls = some (.ref C)) (S : Sim K mg m' s' H') (st : Stp m H m' H') (ph : m'.phi = m.phi) : ∀ {hs : List (Str × Str)}, (∀ y ∈ known, ∀ p ∈ hs, ∀ C, mg y = some (.ref C) → PySem.W.exmOne K (.ref C) (.ref (He.ga K p.1)) = some (decide (y = p.1))) →
    KontG K mg (RD K mg fr H0) W m H (pickX hs x s') Q → chainE K Q (hs.map fun p => (He.ga K p.1, p.2)) (.ref C) dx H'
  | [], _, k => k.elim
  | (n, r) :: l, hE, k => by
    refine ⟨decide (x.cls = n), hE _ hk (n, r) (List.mem_cons_self ..) C hm, fun hb => ?_, fun hb => ?_⟩
    · have e := of_decide_eq_true hb
      unfold pickX at k
      rw [if_pos e] at k
      exact k (.str r) m' H' st ph S ⟨RV.str, fun _ _ _ z => nomatch z⟩
    · have e := of_decide_eq_false hb
      unfold pickX at k
      rw [if_neg e] at k
      exact pick_chain hk hm S st ph (fun y hy p hp => hE y hy p (List.mem_cons_of_mem _ hp)) k
end
section
variable {X : Cx} {W : WX} {fr fr2 : Bool} {fb : E}
/-- x(lambda: body) -/
theorem se_lam {known : List Str} {hs : List (Str × Str)} {hsA : List (Addr × Str)} {fin : Option Str} {x a : Str} {g c P : Addr} {k : Nat} {pg : Arguments} {bg : List Stmt} {sg : Scope} {dV kV doc pm cdv ct oc : Value} {an od : Option Addr} {osl : Array (Option Value)} {Ng : List Str}
    {params : Arguments} {body : Expr} {scope : Scope} {p lpos pos : Pos} (hC : Clss X.K X.mg known hs hsA) (hg : Gl X x) (hm : X.mg x = some (.ref g)) (hk : PySem.W.keepIn X.K (.ref g) = true)
    (lk : X.K.lookup g = some ⟨oc, od, .func (PySem.W.fnOf x x pg bg sg dV kV doc pm an cdv ct), osl⟩) (hcg : PySem.W.codeIn X.K cdv x = true) (hb : L2.Binds X.K (PySem.W.fnOf x x pg bg sg dV kV doc pm an cdv ct) [a] []) (Sg : FnScope Ng [a] sg) (hNg : Ng[0]? = some a) (hva : Vis sg a)
    (hG : LamX.GivesTo X Ng x sg g cdv bg a (X.env.qual ++ "<lambda>") (TTx X.K hsA fin))
    (TB : LamX.TabB X.base X.mg c P) (hcode : X.env.code = .ref c) (hmT : (P, X.env.qual ++ "<lambda>") ∈ Tb.T X.K) (hu : ∀ p ∈ Tb.T X.K, p.1 = P → p.2 = X.env.qual ++ "<lambda>") (hr : Room (k + 2) X.A) (L : LamX.LamS X.env.scope scope) (hdef : defaultsOf params X.env = ([], []))
    (hbind : ∀ (q : Str) (cl : List (Str × Addr)) (pm cv ctv : Value), bindArgs (PySem.W.kla_fn "<lambda>" q params body scope cl pm cv ctv) ⟨[], []⟩ = pure [])
    (hbody : ∀ (A : Around) (outer : List PySem.Env) (s : Shared) (H : Hp) (E : XK) (f c' : Addr), Room k (A.deeper (LamX.lamEnv X scope s.heap.objs.size f c')) → SE (LamX.lamCx X A outer s H E scope f c') (fun c d _ H => E c d H) fr body fb)
    (hdb : (x == ("__debug__" : Str)) = false := by decide) (hd : (a == ("__debug__" : Str)) = false := by decide) (hcd : (a == ("__classdict__" : Str)) = false := by decide) :
    SE X W false (.Call (.Name x p) [.Lambda params body scope lpos] [] pos) (eLamK known hs fin fb) := by
  refine PE.imp (LamX.pe_lamcall (T := Tb.T X.K) (t := fun E => tE X.K X.mg (fun c d _ H => E c d H) fr fb) hg hm hk lk hcg hb Sg hNg hva hG TB hcode hmT hu hr L hdef hbind hbody hdb hd hcd) fun σ H Q ⟨m, env, s, S, Er, k⟩ => ⟨S.tb, fun H1 eN hT => ?_⟩
  have st : Stp m H m H1 := ext_stp eN
  have S1 : Sim X.K X.mg m s H1 := S.ext eN hT
  refine ⟨m, env, s, S1, Er.mono st.wk, ?_⟩
  have k1 : KontG X.K X.mg (RD X.K X.mg false H) (fun c d H' => W c d σ H') m H (tellK known hs fin (fb env) s) Q := k
  unfold tellK at k1
  cases q : fb env s with
  | bad => rw [q] at k1; exact k1.elim
  | ok d s' =>
    rw [q] at k1
    intro v m' H' st' ph' S' rd
    cases fin with
    | none => exact k1 v m' H' (st.trans st') ph' S' ⟨rd.1, fun z => nomatch z⟩
    | some r => exact k1 (.str r) m' H' (st.trans st') ph' S' ⟨RV.str, fun z => nomatch z⟩
  | err x s' =>
    rw [q] at k1
    intro cls dx m' H' st' ph' S' ex
    obtain ⟨⟨C, e1, e2⟩, _⟩ := ex
    subst e1
    simp only at k1
    split at k1
    · rename_i hkn
      have := pick_chain (dx := dx) hkn e2 S' (st.trans st') ph' hC.exm k1
      rw [hC.at_]
      cases fin with
      | none => exact this
      | some r => exact this
    · exact k1.elim
end
end G

end
section
namespace G
open PySem PySem.Spec L2
open PyProof.Rows (envOfC)
variable [Tb]
section
variable {P : Program} {w : World} {K : PySem.W.Frag} {mg : Str → Option Value} {base : Heap} {j k n : Nat} {x : Str} {fr : Bool} {F : Fun1}
theorem Cal.mono (c : Cal P w K mg base j x n fr F) (h : j ≤ k) : Cal P w K mg base k x n fr F := by
  obtain ⟨f, fd, ps, ok, r⟩ := c
  exact ⟨f, fd, ps, ok.mono h, r⟩
theorem Cal.weak (c : Cal P w K mg base k x n fr F) : Cal P w K mg base k x n false F := by
  obtain ⟨f, fd, ps, ok, r⟩ := c
  exact ⟨f, fd, ps, ok.imp fun vs H Q E ⟨m, ds, s, S, rv, hl, kk⟩ => ⟨m, ds, s, S, rv, hl, kk.move Stp.refl rfl fun _ _ _ _ _ z => ⟨z.1, fun q => nomatch q⟩⟩, r⟩
theorem calT {tbl : List (Str × Fun1)} (h : ∀ p ∈ tbl, Cal P w K mg base k p.1 n fr p.2) (y : Str) (F : Fun1) (e : tbl.lookup y = some F) : Cal P w K mg base k y n fr F := h (y, F) (PySem.mem_of_lookup e)
end
/-- where lambdas are made: the def's code object, its table -/
structure LamAt (K : PySem.W.Frag) (mg : Str → Option Value) (base : Heap) (q : Str) (cdv : Value) (c P : Addr) : Prop where
  code : cdv = .ref c
  tab : LamX.TabB base mg c P
  mem : (P, q) ∈ Tb.T K
  uni : ∀ p ∈ Tb.T K, p.1 = P → p.2 = q
section
variable {fr : Bool} {n k nl : Nat} {K : PySem.W.Frag} {mg : Str → Option Value} {m : WM} {H : Hp} {E : XK} {Q : VK} {g : SM} {ds : List D} {s0 : Sto}
theorem endF (kk : KontG K mg (RD K mg fr H) E m H (defF nl g ds s0) Q) : KontS K mg (fun c d _ H => E c d H) fr false m H (g (startE nl ds) s0) { nx := fun _ H' => Q .non H', rt := Q } := by
  have kk' : KontG K mg (RD K mg fr H) E m H (match g (startE nl ds) s0 with | .ok (.rt d) _ s' => .ok d s' | .ok .nx _ s' => .ok .non s' | .err x _ s' => .err x s' | _ => .bad) Q := kk
  revert kk'
  cases g (startE nl ds) s0 with
  | ok fl env' s' =>
    cases fl with
    | rt d => exact fun k m' σ' H' x1 x2 x3 x4 v x5 => k v m' H' x1 (x2 rfl) x3 x5
    | nx => exact fun k m' σ' H' x1 x2 x3 x4 => k .non m' H' x1 (x2 rfl) x3 ⟨RV.non, fun _ _ _ z => nomatch z⟩
    | bk => exact fun k => k.elim
    | ct => exact fun k => k.elim
  | err x env' s' => exact fun k c dx m' σ' H' x1 x2 x3 x4 x5 => k c dx m' H' x1 (x2 rfl) x3 x5
  | bad => exact fun k => k.elim
theorem endC (S0 : Sim K mg m s0 H) (kk : KontG K mg (RD K mg false H) E m H (defC nl g ds s0) Q) : KontS K mg (fun c d _ H => E c d H) false true m H (g (startE nl ds) s0) { nx := fun _ H' => Q .non H', rt := Q } := by
  have kk' : KontG K mg (RD K mg false H) E m H (match g (startE nl ds) s0 with | .ok (.rt d) _ s' => .ok (fz s0.cel.length s'.cel d) (cut s0.cel.length s') | .ok .nx _ s' => .ok .non (cut s0.cel.length s') | .err x _ s' => .err x (cut s0.cel.length s') | _ => .bad) Q := kk
  revert kk'
  cases g (startE nl ds) s0 with
  | ok fl env' s' =>
    cases fl with
    | rt d =>
      intro k m' σ' H' x1 x2 x3 x4 v x5
      obtain ⟨t, e, ht⟩ := x1.phi
      exact k v { m' with phi := m.phi } H' x1.cut rfl (x3.cut e S0.cl) ⟨RV.fz x3 e S0.cl d v x5.1, fun z => nomatch z⟩
    | nx =>
      intro k m' σ' H' x1 x2 x3 x4
      obtain ⟨t, e, ht⟩ := x1.phi
      exact k .non { m' with phi := m.phi } H' x1.cut rfl (x3.cut e S0.cl) ⟨RV.non, fun z => nomatch z⟩
    | bk => exact fun k => k.elim
    | ct => exact fun k => k.elim
  | err x env' s' =>
    intro k c dx m' σ' H' x1 x2 x3 x4 x5
    obtain ⟨t, e, ht⟩ := x1.phi
    exact k c dx { m' with phi := m.phi } H' x1.cut rfl (x3.cut e S0.cl) x5
  | bad => exact fun k => k.elim
end
section
variable {fr : Bool} {n k : Nat} {P : Program} {w : World} {K : PySem.W.Frag} {mg : Str → Option Value} {base : Heap} {x qual q : Str} {params : Arguments} {body : List Stmt} {scope : Scope} {f : Addr} {fd : FuncData} {N ps : List Str} {g : SM} {c Pt : Addr}
/-- a def that makes lambdas -/
theorem def_okL (F : FunD K x qual params body scope [] [] f fd) (L : LamAt K mg base q fd.code c Pt) (S : FnScope N ps scope) (hn : ps.length = n)
    (hbody : ∀ (cdv : Value) (A : Around) (outer : List PySem.Env) (s : Shared) (H : Hp) (E : XK), LamAt K mg base q cdv c Pt → Room k (A.deeper (envOfC qual scope s.heap.objs.size f cdv)) → SSs (cxOf (L2.CX P w) P w K mg base N qual scope f cdv A outer s H E) (fun c d _ H => E c d H) fr false body g) :
    FnOk P w K mg base (L2.CX P w) (k + 1) f fd ps (spD K mg n fr (defF N.length g)) := by
  obtain ⟨oc, od, dV, kV, doc, pm, an, cdv, ct, osl, rfl, lk, hcd, d1, d2⟩ := F.ex
  refine fn_of lk hcd S (fun vs H Q E ⟨m, ds, s, _, r, hl, _⟩ => by rw [r.length, hl, hn]) fun A outer s H vs Q E hr hsp => ⟨_, hbody cdv A outer s H E L hr, ?_⟩
  obtain ⟨m, ds, s0, S0, r, hl, kk⟩ := hsp
  exact ⟨m, _, s0, S0, startE_ok r, endF kk⟩
theorem def_okLC (F : FunD K x qual params body scope [] [] f fd) (L : LamAt K mg base q fd.code c Pt) (S : FnScope N ps scope) (hn : ps.length = n)
    (hbody : ∀ (cdv : Value) (A : Around) (outer : List PySem.Env) (s : Shared) (H : Hp) (E : XK), LamAt K mg base q cdv c Pt → Room k (A.deeper (envOfC qual scope s.heap.objs.size f cdv)) → SSs (cxOf (L2.CX P w) P w K mg base N qual scope f cdv A outer s H E) (fun c d _ H => E c d H) false true body g) :
    FnOk P w K mg base (L2.CX P w) (k + 1) f fd ps (spD K mg n false (defC N.length g)) := by
  obtain ⟨oc, od, dV, kV, doc, pm, an, cdv, ct, osl, rfl, lk, hcd, d1, d2⟩ := F.ex
  refine fn_of lk hcd S (fun vs H Q E ⟨m, ds, s, _, r, hl, _⟩ => by rw [r.length, hl, hn]) fun A outer s H vs Q E hr hsp => ⟨_, hbody cdv A outer s H E L hr, ?_⟩
  obtain ⟨m, ds, s0, S0, r, hl, kk⟩ := hsp
  exact ⟨m, _, s0, S0, startE_ok r, endC S0 kk⟩
end
section
variable {X : Cx} {W : WX} {fr fr2 : Bool} {fb : E}
/-- g(lambda: body), g a teller -/
theorem se_lamF {known : List Str} {hs : List (Str × Str)} {hsA : List (Addr × Str)} {fin : Option Str} {x a q : Str} {c P : Addr} {k : Nat} {pg : Arguments} {bg : List Stmt} {sg : Scope} {Ng : List Str}
    {params : Arguments} {body : Expr} {scope : Scope} {p lpos pos : Pos} (hC : Clss X.K X.mg known hs hsA) (hdf : ∃ f fd, FunD X.K x x pg bg sg [] [] f fd ∧ X.mg x = some (.ref f)) (hb : ∀ {f fd}, FunD X.K x x pg bg sg [] [] f fd → Binds X.K fd [a] []) (Sg : FnScope Ng [a] sg) (hNg : Ng[0]? = some a) (hva : Vis sg a)
    (hq : X.env.qual ++ "<lambda>" = q) (hG : ∀ g cdv, LamX.GivesTo X Ng x sg g cdv bg a q (TTx X.K hsA fin)) (L : LamAt X.K X.mg X.base q X.env.code c P) (hg : Gl X x) (hr : Room (k + 2) X.A) (Ls : LamX.LamS X.env.scope scope) (hdef : defaultsOf params X.env = ([], []))
    (hbind : ∀ (q : Str) (cl : List (Str × Addr)) (pm cv ctv : Value), bindArgs (PySem.W.kla_fn "<lambda>" q params body scope cl pm cv ctv) ⟨[], []⟩ = pure [])
    (hbody : ∀ (A : Around) (outer : List PySem.Env) (s : Shared) (H : Hp) (E : XK) (f c' : Addr), Room k (A.deeper (LamX.lamEnv X scope s.heap.objs.size f c')) → SE (LamX.lamCx X A outer s H E scope f c') (fun c d _ H => E c d H) fr body fb)
    (hdb : (x == ("__debug__" : Str)) = false := by decide) (hd : (a == ("__debug__" : Str)) = false := by decide) (hcd : (a == ("__classdict__" : Str)) = false := by decide) :
    SE X W false (.Call (.Name x p) [.Lambda params body scope lpos] [] pos) (eLamK known hs fin fb) := by
  obtain ⟨f, fd, F, hm⟩ := hdf
  have hb' := hb F
  have hk := F.kp
  obtain ⟨oc, od, dV, kV, doc, pm, an, cdv, ct, osl, e, lk, hcg, d1, d2⟩ := F.ex
  subst e hq
  exact se_lam hC hg hm hk lk hcg hb' Sg hNg hva (hG f cdv) L.tab L.code L.mem L.uni hr Ls hdef hbind hbody hdb hd hcd
end
end G

end
section
namespace G
open PySem PySem.Spec L2
open PyProof.Rows (envOfC)
variable [Tb]
def dIsB : G2 := fun _ x y => match x, y with
  | .bl a, .bl b => some (.bl (decide (a = b)))
  | _, _ => none
section
variable {K : PySem.W.Frag} {mg : Str → Option Value}
theorem ok_isB : OkOp K mg true (fun x y H Q => ∃ a b, x = .bl a ∧ y = .bl b ∧ Q (.bl (decide (a = b))) H) dIsB := by
  intro m s H x y dx dy d Q S rx ry e k
  unfold dIsB at e
  split at e
  · cases e
    exact ⟨_, _, rx.bl', ry.bl', k _ _ Grw.refl RV.bl fun _ _ z => nomatch z⟩
  · cases e
end
section
variable {P : Program} {w : World} {K : PySem.W.Frag} {mg : Str → Option Value} {base : Heap} {k n : Nat}
theorem calT_nil : ∀ p ∈ ([] : List (Str × Fun1)), Cal P w K mg base k p.1 n false p.2 := fun _ h => nomatch h
theorem calT_cons {x : Str} {F : Fun1} {l : List (Str × Fun1)} (c : Cal P w K mg base k x n false F) (r : ∀ p ∈ l, Cal P w K mg base k p.1 n false p.2) : ∀ p ∈ (x, F) :: l, Cal P w K mg base k p.1 n false p.2 := fun p h => by
  rcases List.mem_cons.mp h with e | h
  · rw [e]; exact c
  · exact r p h
end
end G
namespace G
open PySem PySem.Spec L2
variable [Tb]
theorem nodup_uni {α β : Type} {f : α → β} : ∀ {l : List α}, (l.map f).Nodup → ∀ p ∈ l, ∀ q ∈ l, f p = f q → p = q
  | [], _, p, hp, _, _, _ => nomatch hp
  | x :: l, h, p, hp, q, hq, e => by
    rw [List.map_cons, List.nodup_cons] at h
    rcases List.mem_cons.mp hp with e1 | hp' <;> rcases List.mem_cons.mp hq with e2 | hq'
    · rw [e1, e2]
    · exact absurd (List.mem_map.mpr ⟨q, hq', by rw [← e, e1]⟩) h.1
    · exact absurd (List.mem_map.mpr ⟨p, hp', by rw [e, e2]⟩) h.1
    · exact nodup_uni h.2 p hp' q hq' e
/-- the tables that the law's lambdas write at -/
def tabT (tf : List (He.Defn × Str)) (K : PySem.W.Frag) : List (Addr × Str) := tf.map fun p => ((He.cT K p.1).2, p.2)
def tabEx (tf : List (He.Defn × Str)) (K : PySem.W.Frag) : Bool := decide ((tf.map fun p => (He.cT K p.1).2).Nodup)
theorem lamAt_of {tf : List (He.Defn × Str)} {K : PySem.W.Frag} {mg : Str → Option Value} {base : Heap} {x q : Str} {params : Arguments} {body : List Stmt} {scope : Scope} {p : He.Defn} {fd : FuncData} (hT : Tb.T K = tabT tf K) (hn : tabEx tf K = true)
    (F : FunD K x x params body scope [] [] (He.fAd K p) fd) (hp : (p, q) ∈ tf) (B : ∀ c ∈ tf.map (fun p => He.cT K p.1), LamX.TabB base mg c.1 c.2) : LamAt K mg base q fd.code (He.cT K p).1 (He.cT K p).2 := by
  obtain ⟨oc, od, dV, kV, doc, pm, an, cdv, ct, osl, e, lk, hcd, _, _⟩ := F.ex
  obtain ⟨c, ec⟩ := He.codeIn_ref hcd
  have e2 : fd.code = .ref c := by rw [e]; exact ec
  have e3 := He.codeOf_eq (p := p) lk e2
  refine ⟨by rw [e2]; show Value.ref c = Value.ref (He.codeOf K p); rw [e3], B _ (List.mem_map.mpr ⟨_, hp, rfl⟩), ?_, fun z hz ez => ?_⟩
  · rw [hT]
    exact List.mem_map.mpr ⟨_, hp, rfl⟩
  · rw [hT] at hz
    obtain ⟨r, hr, er⟩ := List.mem_map.mp hz
    have := nodup_uni (f := fun p : He.Defn × Str => (He.cT K p.1).2) (of_decide_eq_true hn) r hr _ hp (by rw [← er] at ez; exact ez)
    rw [← er, this]
theorem tabs_nil {tf : List (He.Defn × Str)} {K : PySem.W.Frag} {H : Hp} (hT : Tb.T K = tabT tf K) (h : ∀ c ∈ tf.map (fun p => He.cT K p.1), H c.2 = some (.tbl #[])) : LamX.Tabs (Tb.T K) H := by
  rw [hT]
  intro z hz
  obtain ⟨r, hr, er⟩ := List.mem_map.mp hz
  rw [← er]
  exact LamX.TabS.nil (h _ (List.mem_map.mpr ⟨r, hr, rfl⟩))
end G
namespace G
open PySem PySem.Spec L2
theorem cx_no {P : Program} (w : World) (H : Hp) (s : Shared) (e : Value) (s' : Shared) (h : L2.CX P w [] H s (fun _ _ _ => False) e s') : False := by
  unfold L2.CX at h
  obtain ⟨_, _, _, _, _, h⟩ := h
  exact h.2.2.2.2.2.2.2
variable [Tb]
/-- the law at the head's heap -/
theorem lawAt {l : PySem.W.OpenLaw} {w : World} {K : PySem.W.Frag} {k : Nat} {mg : Str → Option Value} {fa : Addr} {h : Heap} {tf : List (He.Defn × Str)} {fas : List He.Fa} {fns : List He.DefD} {fd : FuncData} {fr : Bool} {F : Fun1} (hT : Tb.T K = tabT tf K) (KX : K.In h) (c : He.SaysX fas fns [] (tf.map (·.1)) (tabEx tf) w h K)
    (hb : ∀ (s : Shared) (u : Value), BindsTo s fd ⟨[u], []⟩ [("script", u)]) (hF : ∀ ns : List Int, ns.length ≤ 63 → ∃ s, F [.scr ns] {} = .ok (.bl true) s)
    (hf : ∀ base : Heap, K.In base → base.Ns mainGlobals mg → (∀ c ∈ tf.map (fun p => He.cT K p.1), LamX.TabB base mg c.1 c.2) → FnOk l.prog w K mg base (L2.CX l.prog w) k fa fd ["script"] (spD K mg 1 fr F)) : LamX.LawAtS l w K (L2.CX l.prog w) k 63 "script" mg fa h := by
  have go : ∀ p ∈ tf.map (fun p => He.cT K p.1), ∃ r ∈ tf.map (·.1), p = He.cT K r := fun p hp => by
    obtain ⟨r, hr, er⟩ := List.mem_map.mp hp
    exact ⟨r.1, List.mem_map.mpr ⟨r, hr, rfl⟩, er.symm⟩
  refine ⟨fd, tf.map (fun p => He.cT K p.1), spD K mg 1 fr F, fun p hp => ?_, fun p hp => ?_, fun p hp => ?_, hb, fun H a ns hl _ hH hS => sp_of hF H a ns hl (tabs_nil hT hH) hS, hf⟩
  · obtain ⟨r, hr, e⟩ := go p hp
    rw [e]; exact c.empty r hr
  · obtain ⟨r, hr, e⟩ := go p hp
    rw [e]; exact c.out r hr
  · obtain ⟨r, hr, e⟩ := go p hp
    rw [e]; exact PySem.W.codeHd_of_K KX (c.hd r hr)
end G

end
section
namespace G
open PySem PySem.Spec L2
variable [Tb]
def gtP (a : Int) (b : Bool) (c : Int) (d : Bool) : Bool := if a = c then (b && !d) else decide (c < a)
theorem rcGt_bool {A : Around} {s : Shared} (b d : Bool) : Ob.RcOp .Gt A s (.bool b) (.bool d) (b && !d) := fun prog w E Q h => by
  have e : (b && !d) = decide (PyProof.Rows.b2i b > PyProof.Rows.b2i d) := by cases b <;> cases d <;> rfl
  rw [e] at h
  exact PyProof.Rows.gt_bool h
/-- of laid pairs -/
theorem rcGt_pair {A : Around} {s : Shared} {l r : Addr} {a c : Int} {t u : Tok} {b d : Bool} (hl : s.heap.IsTuple l #[.int a t, .bool b]) (hr : s.heap.IsTuple r #[.int c u, .bool d]) (hu : A.units < cLine) : Ob.RcOp .Gt A s (.ref l) (.ref r) (gtP a b c d) := by
  have R := Ob.RcOp.tuples_gt (A := A) (s := s) (e := fun j => if j = 0 then a == c else b == d) (r := fun j => if j = 0 then decide (c < a) else (b && !d)) hl hr hu (fun j h1 h2 => by
    have h1' : j < 2 := h1
    rcases Nat.lt_or_ge j 1 with q | q
    · obtain rfl : j = 0 := by omega
      exact SeqAt.EqAt.int_int _ _ _ _
    · obtain rfl : j = 1 := by omega
      exact SeqAt.EqAt.bool_bool _ _) (fun j h1 h2 _ => by
    have h1' : j < 2 := h1
    rcases Nat.lt_or_ge j 1 with q | q
    · obtain rfl : j = 0 := by omega
      exact Ob.RcOp.gt_int _ _ _ _
    · obtain rfl : j = 1 := by omega
      exact rcGt_bool _ _)
  have e : Ob.lexAt (fun j => if j = 0 then a == c else b == d) (fun j => if j = 0 then decide (c < a) else (b && !d)) (decide ((#[Value.int a t, Value.bool b] : Array Value).size > (#[Value.int c u, Value.bool d] : Array Value).size)) 0 (min (#[Value.int a t, Value.bool b] : Array Value).size (#[Value.int c u, Value.bool d] : Array Value).size) = gtP a b c d := by
    show (if (a == c) = true then (if (b == d) = true then _ else _) else _) = _
    unfold gtP
    by_cases q : a = c
    · subst q
      cases b <;> cases d <;> simp [Ob.lexAt]
    · simp [q]
  rw [e] at R
  exact R
def rGtP (K : PySem.W.Frag) : R2 := fun x y H Q => ∃ p q a b c d, x = .ref p ∧ y = .ref q ∧ SqT K H p [.int a, .bl b] ∧ SqT K H q [.int c, .bl d] ∧ Q (.bl (gtP a b c d)) H
theorem vals_pair {a : Int} {b : Bool} {us : List Value} (r : Vals [.int a, .bl b] us) : ∃ t, us = [.int a t, .bool b] := by
  cases r with
  | cons h r =>
    cases r with
    | cons h2 r =>
      cases r
      obtain ⟨t, e⟩ := h
      subst e
      cases h2
      exact ⟨t, rfl⟩
theorem op_gtP {X : Cx} (hu : X.A.units < cLine) : OpR X (compareOp .Gt) (rGtP X.K) := by
  intro pins s σ H x y v u Q I rx ry h
  obtain ⟨p, q, a, b, c, d, rfl, rfl, hp, hq, k⟩ := h
  cases rx
  cases ry
  obtain ⟨its, r1, p1, _⟩ := I.tuple hp
  obtain ⟨its2, r2, p2, _⟩ := I.tuple hq
  obtain ⟨t, rfl⟩ := vals_pair r1
  obtain ⟨t2, rfl⟩ := vals_pair r2
  exact rcGt_pair p1 p2 hu X.prog X.w X.xe (EP X pins σ Q) ⟨.bl _, H, I, rfl, k⟩
end G

end
section
namespace G
open PySem
section
variable {prog : Program} {w : World} {A : Around} {R : Result → Shared → Prop}
/-- nothing is left: the best is the answer -/
theorem max_turn2 (hh : A.handled = none) {I T S : Addr} {va vb best : Value} {s : Shared} {c : Nat} (hTI : T ≠ I) (hSI : S ≠ I) (hi : s.heap.IsTupleIter I T 2) (ht : s.heap.IsTuple T #[va, vb])
    (hS : s.heap.get? S = some { cls := .type "list", dict := none, data := .seq #[best, best] c, slots := #[] })
    (hR : ∀ h' tk, (∀ b o, b ≠ I → b ≠ S → s.heap.get? b = some o → h'.get? b = some o) → R (.ok (.ret best)) { s with heap := h', toks := tk }) :
    codeAny (model prog w) A (.builtin "max.loop" ⟨[.ref I, .none, .ref S], []⟩) R s := by
  have W := Walks.tuple (prog := prog) (w := w) (A := A.in1) hh I T hTI #[va, vb]
  refine codeAny_builtin F.entry_max_loop ?_
  rw [Around.under_plainId F.plain_max_loop _]
  have wI : ∀ b, b ≠ I → b ∉ [I] := fun b hb z => hb (List.mem_singleton.mp z)
  show wpAny _ A.in1 (seqItems? (.ref S) >>= _) _ _ s
  refine wpAny_bind (wpAny_seqItems hS rfl ?_)
  show wpAny _ A.in1 (tryCatch (pyNext (.ref I)) _ >>= _) _ _ s
  refine wpAny_bind (wpAny_tryCatch (W.done s _ _ ⟨hi, ht⟩ fun h' tk hk' => ?_))
  have hS' := hk' S _ (wI S hSI) hS
  show wpAny _ A.in1 (updateSeq S (fun _ => #[]) >>= _) _ _ _
  refine wpAny_bind ?_
  refine wpAny_updateSeq hS' rfl (wpAny_bind (wpAny_letGo (wpAny_pure ?_)))
  exact hR _ tk fun b o h1 h2 e => (Heap.get?_update_other _ _ (Ne.symm h2)).trans (hk' b o (wI b h1) e)
/-- the last two turns of max over a tuple of two, the first item being the best so far -/
theorem max_turn1 (hh : A.handled = none) {I T S : Addr} {va vb : Value} {g : Bool} {s : Shared} {c : Nat} (hTI : T ≠ I) (hSI : S ≠ I) (hST : S ≠ T) (hi : s.heap.IsTupleIter I T 1) (ht : s.heap.IsTuple T #[va, vb])
    (hS : s.heap.get? S = some { cls := .type "list", dict := none, data := .seq #[va, va] c, slots := #[] })
    (hc : ∀ s' : Shared, (∀ b o, b ≠ I → b ≠ S → s.heap.get? b = some o → s'.heap.get? b = some o) → ∀ (Q : Value → Shared → Prop) (E : Value → Shared → Prop), Q (.bool g) s' → wpAny (model prog w) A.in1 (richCompare .Gt vb va) Q E s')
    (hR : ∀ h' tk, (∀ b o, b ≠ I → b ≠ S → s.heap.get? b = some o → h'.get? b = some o) → R (.ok (.ret (if g = true then vb else va))) { s with heap := h', toks := tk }) :
    codeAny (model prog w) A (.builtin "max.loop" ⟨[.ref I, .none, .ref S], []⟩) R s := by
  have W := Walks.tuple (prog := prog) (w := w) (A := A.in1) hh I T hTI #[va, vb]
  refine codeAny_builtin F.entry_max_loop ?_
  rw [Around.under_plainId F.plain_max_loop _]
  have nm : (toString "max" ++ toString ".loop" : String) = "max.loop" := by decide
  have wI : ∀ b, b ≠ I → b ∉ [I] := fun b hb z => hb (List.mem_singleton.mp z)
  show wpAny _ A.in1 (seqItems? (.ref S) >>= _) _ _ s
  refine wpAny_bind (wpAny_seqItems hS rfl ?_)
  show wpAny _ A.in1 (tryCatch (pyNext (.ref I)) _ >>= _) _ _ s
  refine wpAny_bind (wpAny_tryCatch (W.item 1 s _ _ (by simp) ⟨hi, ht⟩ fun v h' tk hP hst' hk' => ?_))
  have hv : vb = v := Option.some.inj hP
  subst hv
  have hS' := hk' S _ (wI S hSI) hS
  show wpAny _ A.in1 (tryCatch (holding [vb, vb] (richCompare .Gt vb va >>= _)) _ >>= _) _ _ _
  refine wpAny_bind (wpAny_tryCatch (wpAny_holding (wpAny_bind (hc _ (fun b o h1 _ e => hk' b o (wI b h1) e) _ _ ?_))))
  refine wpAny_bind (wpAny_holding (wpAny_truthy_bool ?_))
  refine wpAny_bind (wpAny_letGo (wpAny_pure ?_))
  have kp : ∀ b o, b ≠ I → b ≠ S → s.heap.get? b = some o → h'.get? b = some o := fun b o h1 _ e => hk' b o (wI b h1) e
  cases g with
  | true =>
    simp only [if_true]
    refine wpAny_bind ?_
    refine wpAny_updateSeq hS' rfl (wpAny_bind (wpAny_letGo ?_))
    rw [nm]
    refine wpAny_pure ⟨plainId_quiet F.plain_max_loop _, ?_⟩
    have W2 := W.frame 2 _ (h'.update S (Obj.mapSeq fun _ => #[vb, vb])) hst' fun b hb o e => (Heap.get?_update_other _ _ (fun h : S = b => by
      rcases List.mem_cons.mp hb with q | q
      · exact hSI (h.trans q)
      · exact hST (h.trans (List.mem_singleton.mp q)))).trans e
    exact max_turn2 hh hTI hSI W2.1 W2.2 (Heap.get?_update_self _ hS' rfl) fun h'' tk'' k2 => hR h'' tk'' fun b o h1 h2 e => k2 b o h1 h2 ((Heap.get?_update_other _ _ (Ne.symm h2)).trans (kp b o h1 h2 e))
  | false =>
    simp only [Bool.false_eq_true, if_false]
    refine wpAny_bind (wpAny_letGo ?_)
    rw [nm]
    refine wpAny_pure ⟨plainId_quiet F.plain_max_loop _, ?_⟩
    exact max_turn2 hh hTI hSI hst'.1 hst'.2 hS' fun h'' tk'' k2 => hR h'' tk'' fun b o h1 h2 e => k2 b o h1 h2 (kp b o h1 h2 e)
theorem max_turn0 (hh : A.handled = none) {I T S : Addr} {va vb : Value} {g : Bool} {s : Shared} {c : Nat} (hTI : T ≠ I) (hSI : S ≠ I) (hST : S ≠ T) (hi : s.heap.IsTupleIter I T 0) (ht : s.heap.IsTuple T #[va, vb])
    (hS : s.heap.get? S = some { cls := .type "list", dict := none, data := .seq #[] c, slots := #[] })
    (hc : ∀ s' : Shared, (∀ b o, b ≠ I → b ≠ S → s.heap.get? b = some o → s'.heap.get? b = some o) → ∀ (Q : Value → Shared → Prop) (E : Value → Shared → Prop), Q (.bool g) s' → wpAny (model prog w) A.in1 (richCompare .Gt vb va) Q E s')
    (hR : ∀ h' tk, (∀ b o, b ≠ I → b ≠ S → s.heap.get? b = some o → h'.get? b = some o) → R (.ok (.ret (if g = true then vb else va))) { s with heap := h', toks := tk }) :
    codeAny (model prog w) A (.builtin "max.loop" ⟨[.ref I, .none, .ref S], []⟩) R s := by
  have W := Walks.tuple (prog := prog) (w := w) (A := A.in1) hh I T hTI #[va, vb]
  refine codeAny_builtin F.entry_max_loop ?_
  rw [Around.under_plainId F.plain_max_loop _]
  have nm : (toString "max" ++ toString ".loop" : String) = "max.loop" := by decide
  have wI : ∀ b, b ≠ I → b ∉ [I] := fun b hb z => hb (List.mem_singleton.mp z)
  show wpAny _ A.in1 (seqItems? (.ref S) >>= _) _ _ s
  refine wpAny_bind (wpAny_seqItems hS rfl ?_)
  show wpAny _ A.in1 (tryCatch (pyNext (.ref I)) _ >>= _) _ _ s
  refine wpAny_bind (wpAny_tryCatch (W.item 0 s _ _ (by simp) ⟨hi, ht⟩ fun v h' tk hP hst' hk' => ?_))
  have hv : va = v := Option.some.inj hP
  subst hv
  have hS' := hk' S _ (wI S hSI) hS
  have kp : ∀ b o, b ≠ I → b ≠ S → s.heap.get? b = some o → h'.get? b = some o := fun b o h1 _ e => hk' b o (wI b h1) e
  show wpAny _ A.in1 (updateSeq S (fun _ => #[va, va]) >>= _) _ _ _
  refine wpAny_bind ?_
  refine wpAny_updateSeq hS' rfl ?_
  rw [nm]
  refine wpAny_pure ⟨plainId_quiet F.plain_max_loop _, ?_⟩
  have kp2 : ∀ b o, b ≠ I → b ≠ S → s.heap.get? b = some o → (h'.update S (Obj.mapSeq fun _ => #[va, va])).get? b = some o := fun b o h1 h2 e => (Heap.get?_update_other _ _ (Ne.symm h2)).trans (kp b o h1 h2 e)
  have W2 := W.frame 1 _ (h'.update S (Obj.mapSeq fun _ => #[va, va])) hst' fun b hb o e => (Heap.get?_update_other _ _ (fun h : S = b => by
    rcases List.mem_cons.mp hb with q | q
    · exact hSI (h.trans q)
    · exact hST (h.trans (List.mem_singleton.mp q)))).trans e
  exact max_turn1 hh hTI hSI hST W2.1 W2.2 (Heap.get?_update_self _ hS' rfl) (fun s' k => hc s' fun b o h1 h2 e => k b o h1 h2 (kp2 b o h1 h2 e)) fun h'' tk'' k2 => hR h'' tk'' fun b o h1 h2 e => k2 b o h1 h2 (kp2 b o h1 h2 e)
theorem call_max_pair {E : Value → Shared → Prop} {s : Shared} {va vb : Value} {g : Bool} {Q : Value → Shared → Prop} (hh : A.handled = none)
    (hc : ∀ s' : Shared, (∀ b o, s.heap.get? b = some o → s'.heap.get? b = some o) → ∀ (Q : Value → Shared → Prop) (E : Value → Shared → Prop), Q (.bool g) s' → wpAny (model prog w) A.in1 (richCompare .Gt vb va) Q E s')
    (hQ : ∀ h' tk, (∀ b o, s.heap.get? b = some o → h'.get? b = some o) → Q (if g = true then vb else va) { s with heap := h', toks := tk }) : wpAny (model prog w) A (call (.builtin "max") [va, vb]) Q E s := by
  have hname : (toString "max" ++ toString ".loop" : String) = "max.loop" := by decide
  refine call_function_tree F.kind_max F.plain_max F.entry_max (F.args_max2 _ _) ?_
  show wpAny _ A.in1 (Builtin.Builtins.bindParams "max" ["key", "default"] 0 ⟨[], []⟩ >>= _) _ _ s
  refine wpAny_bind (wpAny_of_eq (show Builtin.Builtins.bindParams "max" ["key", "default"] 0 ⟨[], []⟩ = pure [none, none] from rfl) ?_)
  show wpAny _ A.in1 (newTuple [va, vb] >>= _) _ _ s
  refine wpAny_bind (wpAny_newObj_type ?_)
  have hT : (s.heap.push { cls := .type "tuple", data := .seq #[va, vb] }).IsTuple s.heap.objs.size #[va, vb] := ⟨_, Heap.get?_push_size _ rfl, rfl, 0, rfl⟩
  have hsz : (s.heap.push { cls := .type "tuple", data := .seq #[va, vb] }).objs.size = s.heap.objs.size + 1 := Heap.size_push ..
  have hsz2 : ((s.heap.push { cls := .type "tuple", data := .seq #[va, vb] }).push { cls := .type "tuple_iterator", data := .fields #[.ref s.heap.objs.size, .int 0 0] }).objs.size = s.heap.objs.size + 1 + 1 := by rw [Heap.size_push, hsz]
  refine wpAny_bind (wpAny_pyIter_tuple (s := { s with heap := s.heap.push { cls := .type "tuple", data := .seq #[va, vb] } }) hT ?_)
  refine wpAny_bind (wpAny_newObj_type ?_)
  rw [hname]
  have old : ∀ b o, s.heap.get? b = some o → (((s.heap.push { cls := .type "tuple", data := .seq #[va, vb] }).push { cls := .type "tuple_iterator", data := .fields #[.ref s.heap.objs.size, .int 0 0] }).push { cls := .type "list", data := .seq #[] }).get? b = some o :=
    fun b o e => Heap.get?_push_of_some _ (Heap.get?_push_of_some _ (Heap.get?_push_of_some _ e))
  have hlt : ∀ b o, s.heap.get? b = some o → b < s.heap.objs.size := fun b o e => Heap.lt_size e
  refine wpAny_pure ⟨plainId_quiet F.plain_max_loop _, ?_⟩
  refine max_turn0 (I := (s.heap.push { cls := .type "tuple", data := .seq #[va, vb] }).objs.size) (T := s.heap.objs.size) (S := ((s.heap.push { cls := .type "tuple", data := .seq #[va, vb] }).push { cls := .type "tuple_iterator", data := .fields #[.ref s.heap.objs.size, .int 0 0] }).objs.size) (va := va) (vb := vb) (g := g) (c := 0) hh ?_ ?_ ?_ ?_ ?_ ?_ (fun s' k => hc s' fun b o e => k b o ?_ ?_ (old b o e)) (fun h' tk k => hQ h' tk fun b o e => k b o ?_ ?_ (old b o e))
  · rw [hsz]; exact Nat.ne_of_lt (Nat.lt_succ_self _)
  · rw [hsz2, hsz]; exact Nat.ne_of_gt (Nat.lt_succ_self _)
  · rw [hsz2]; exact Nat.ne_of_gt (Nat.lt_succ_of_lt (Nat.lt_succ_self _))
  · exact ⟨_, Heap.get?_push_of_some _ (Heap.get?_push_size _ rfl), rfl, rfl⟩
  · exact (hT.push _).push _
  · exact Heap.get?_push_size _ rfl
  · rw [hsz]; exact Nat.ne_of_lt (Nat.lt_succ_of_lt (hlt b o e))
  · rw [hsz2]; exact Nat.ne_of_lt (Nat.lt_succ_of_lt (Nat.lt_succ_of_lt (hlt b o e)))
  · rw [hsz]; exact Nat.ne_of_lt (Nat.lt_succ_of_lt (hlt b o e))
  · rw [hsz2]; exact Nat.ne_of_lt (Nat.lt_succ_of_lt (Nat.lt_succ_of_lt (hlt b o e)))
end
section
open L2 PySem.Spec PyProof.Rows
variable [Tb]
/-- max of two pairs of a number and a truth -/
def rMaxP (K : PySem.W.Frag) : List V → Hp → VK → Prop := fun xs H Q => ∃ p q a b c d, xs = [.ref p, .ref q] ∧ SqT K H p [.int a, .bl b] ∧ SqT K H q [.int c, .bl d] ∧ Q (.ref (if gtP c d a b = true then q else p)) H
theorem call_maxP {X : Cx} (hcalm : X.calm = true) (hu : X.A.units + 1 < cLine) : CallR X (.builtin "max") (rMaxP X.K) := by
  intro pins s σ H xs us Q I r h
  obtain ⟨p, q, a, b, c, d, rfl, hp, hq, k⟩ := h
  obtain ⟨u, w', rfl, r1, r2⟩ := vals2 r
  cases r1
  cases r2
  obtain ⟨its, r1, p1, _⟩ := I.tuple hp
  obtain ⟨its2, r2, p2, _⟩ := I.tuple hq
  obtain ⟨t, rfl⟩ := vals_pair r1
  obtain ⟨t2, rfl⟩ := vals_pair r2
  have stay : ∀ {h' : Heap} {l : Addr} {its : Array Value}, s.heap.IsTuple l its → (∀ b o, s.heap.get? b = some o → h'.get? b = some o) → h'.IsTuple l its := fun ⟨o, h1, h2⟩ hk => ⟨o, hk _ _ h1, h2⟩
  refine call_max_pair (g := gtP c d a b) (I.ok.hd hcalm) (fun s' hk Q' E' hQ' => rcGt_pair (stay p2 hk) (stay p1 hk) (by show X.A.units + 1 < cLine; exact hu) _ _ E' Q' hQ') fun h' tk hk => ⟨_, H, I.kept hk, ?_, k⟩
  cases gtP c d a b <;> rfl
end
end G

end
section
namespace G
/-! tables: look up, put -/
def lk {κ β : Type} [DecidableEq κ] : List (κ × β) → κ → Option β
  | [], _ => none
  | p :: r, k => if p.1 = k then some p.2 else lk r k
/-- in its place, or at the end -/
def pt {κ β : Type} [DecidableEq κ] (l : List (κ × β)) (k : κ) (v : β) : List (κ × β) :=
  if (l.any fun p => decide (p.1 = k)) = true then l.map (fun p => if p.1 = k then (p.1, v) else p) else l ++ [(k, v)]
section
variable {κ β : Type} [DecidableEq κ]
theorem lk_any (k : κ) : ∀ l : List (κ × β), (l.any fun p => decide (p.1 = k)) = (lk l k).isSome
  | [] => rfl
  | p :: r => by
    simp only [List.any_cons, lk]
    by_cases e : p.1 = k
    · simp [e]
    · simp only [e, decide_false, Bool.false_or, if_false]
      exact lk_any k r
theorem lk_map (k j : κ) (v : β) : ∀ l : List (κ × β), lk (l.map fun p => if p.1 = k then (p.1, v) else p) j = if j = k then (lk l j).map (fun _ => v) else lk l j
  | [] => by simp [lk]
  | p :: r => by
    simp only [List.map_cons, lk]
    by_cases e : p.1 = k
    · rw [if_pos e]
      by_cases e2 : p.1 = j
      · rw [if_pos e2, if_pos e2, if_pos (e2.symm.trans e)]; rfl
      · rw [if_neg e2, if_neg e2]; exact lk_map k j v r
    · rw [if_neg e]
      by_cases e2 : p.1 = j
      · rw [if_pos e2, if_pos e2, if_neg (fun z => e (e2.trans z))]
      · rw [if_neg e2, if_neg e2]; exact lk_map k j v r
theorem lk_snoc (k j : κ) (v : β) : ∀ l : List (κ × β), lk (l ++ [(k, v)]) j = match lk l j with
    | some x => some x
    | none => if j = k then some v else none
  | [] => by
    simp only [List.nil_append, lk]
    by_cases e : k = j
    · rw [if_pos e, if_pos e.symm]
    · rw [if_neg e, if_neg (Ne.symm e)]
  | p :: r => by
    simp only [List.cons_append, lk]
    by_cases e : p.1 = j
    · rw [if_pos e, if_pos e]
    · rw [if_neg e, if_neg e]; exact lk_snoc k j v r
theorem lk_pt (k j : κ) (v : β) (l : List (κ × β)) : lk (pt l k v) j = if j = k then some v else lk l j := by
  unfold pt
  rw [lk_any]
  cases e : lk l k with
  | some x =>
    rw [Option.isSome_some, if_pos rfl, lk_map]
    by_cases e2 : j = k
    · rw [if_pos e2, if_pos e2, e2, e]; rfl
    · rw [if_neg e2, if_neg e2]
  | none =>
    rw [if_neg (by simp), lk_snoc]
    by_cases e2 : j = k
    · rw [e2, e, if_pos rfl]
    · rw [if_neg e2]; cases lk l j <;> simp [e2]
theorem lk_mem {k : κ} : ∀ {l : List (κ × β)}, k ∈ l.map (·.1) ↔ (lk l k).isSome = true
  | [] => by simp [lk]
  | p :: r => by
    simp only [List.map_cons, List.mem_cons, lk]
    by_cases e : p.1 = k
    · simp [e]
    · rw [if_neg e, ← lk_mem (l := r)]
      constructor
      · rintro (h | h)
        · exact absurd h.symm e
        · exact h
      · exact .inr
theorem pt_len (k : κ) (v : β) (l : List (κ × β)) : (pt l k v).length ≤ l.length + 1 := by
  unfold pt
  split <;> simp
end
end G

end
section
namespace G
open PySem PySem.Spec L2
variable [Tb]
/-! ### tables (dicts) -/
def asKey : D → Option Key
  | .int i => some (.inl i)
  | .str x => some (.inr x)
  | _ => none
def dicAt (s : Sto) : D → Option (List (Key × D))
  | .obj n => match s.obj[n]? with
    | some (.dic kvs) => some kvs
    | _ => none
  | _ => none
section
variable {K : PySem.W.Frag} {mg : Str → Option Value} {m m' : WM} {H H' : Hp} {s s' : Sto}
theorem RV.key {d : D} {v : V} {k : Key} (h : RV K mg m H d v) (e : asKey d = some k) : v = kV k := by
  cases d with
  | int i => cases e; exact h.int'
  | str x => cases e; exact h.str'
  | _ => cases e
theorem RV.obj' {n : Nat} {v : V} (h : RV K mg m H (.obj n) v) : ∃ p, v = .ref p.1 ∧ m.psi[n]? = some p := by unfold RV at h; exact h
theorem dic_at (S : Sim K mg m s H) {d : D} {v : V} {kvs : List (Key × D)} (r : RV K mg m H d v) (e : dicAt s d = some kvs) : ∃ n p us, d = .obj n ∧ m.psi[n]? = some p ∧ s.obj[n]? = some (.dic kvs) ∧ v = .ref p.1 ∧ H p.1 = some (.dK us) ∧ DsR K mg m H kvs us := by
  unfold dicAt at e
  split at e
  · rename_i n
    obtain ⟨p, e1, e2⟩ := r.obj'
    split at e
    · rename_i kvs' q
      cases e
      obtain ⟨us, h1, h2⟩ := S.ob n p _ e2 q
      exact ⟨n, p, us, rfl, e2, q, e1, h1, h2⟩
    · cases e
  · cases e
theorem dsr_get : ∀ {os : List (Key × D)} {us : List (Key × V)}, us.map (·.1) = os.map (·.1) → RVs K mg m H (os.map (·.2)) (us.map (·.2)) → ∀ k, match lk os k with
    | some d => ∃ v, valV us k = some v ∧ RV K mg m H d v
    | none => valV us k = none
  | [], us, h, _, k => by
    simp at h
    subst h
    rfl
  | o :: os, us, h, r, k => by
    cases us with
    | nil => simp at h
    | cons u us =>
      simp only [List.map_cons, List.cons.injEq] at h r
      obtain ⟨v, w, e, r1, r2⟩ := RVs.cons.mp r
      simp only [List.cons.injEq] at e
      obtain ⟨e1, e2⟩ := e
      subst e2
      simp only [lk]
      by_cases q : o.1 = k
      · rw [if_pos q, valV_pos (h.1.trans q)]
        exact ⟨_, rfl, e1 ▸ r1⟩
      · rw [if_neg q, valV_neg (fun z => q (h.1.symm.trans z))]
        exact dsr_get h.2 r2 k
theorem DsR.get {os : List (Key × D)} {us : List (Key × V)} (r : DsR K mg m H os us) (k : Key) : match lk os k with
    | some d => ∃ v, valV us k = some v ∧ RV K mg m H d v
    | none => valV us k = none := dsr_get r.1 r.2.1 k
theorem any_keys {os : List (Key × D)} {us : List (Key × V)} (h : us.map (·.1) = os.map (·.1)) (k : Key) : (us.any fun kv => decide (kv.1 = k)) = os.any fun kv => decide (kv.1 = k) := by
  have e1 : (us.any fun kv => decide (kv.1 = k)) = (us.map (·.1)).any fun x => decide (x = k) := by rw [List.any_map]; rfl
  have e2 : (os.any fun kv => decide (kv.1 = k)) = (os.map (·.1)).any fun x => decide (x = k) := by rw [List.any_map]; rfl
  rw [e1, e2, h]
theorem rvs_repl {d : D} {v : V} (rv : RV K mg m H d v) (k : Key) : ∀ {os : List (Key × D)} {us : List (Key × V)}, us.map (·.1) = os.map (·.1) → RVs K mg m H (os.map (·.2)) (us.map (·.2)) →
    RVs K mg m H ((os.map fun kv => if kv.1 = k then (kv.1, d) else kv).map (·.2)) ((us.map fun kv => if kv.1 = k then (kv.1, v) else kv).map (·.2))
  | [], us, h, _ => by
    simp at h
    subst h
    exact RVs.nil.mpr rfl
  | o :: os, us, h, r => by
    cases us with
    | nil => simp at h
    | cons u us =>
      simp only [List.map_cons, List.cons.injEq] at h r
      obtain ⟨v', w, e, r1, r2⟩ := RVs.cons.mp r
      simp only [List.cons.injEq] at e
      obtain ⟨e1, e2⟩ := e
      subst e2
      have ih := rvs_repl rv k h.2 r2
      simp only [List.map_cons]
      refine RVs.mk ?_ ih
      by_cases q : o.1 = k
      · rw [if_pos q, if_pos (h.1.trans q)]; exact rv
      · rw [if_neg q, if_neg (fun z => q (h.1.symm.trans z)), e1]; exact r1
theorem keys_repl {β : Type} (k : Key) (v : β) : ∀ l : List (Key × β), (l.map fun kv => if kv.1 = k then (kv.1, v) else kv).map (·.1) = l.map (·.1)
  | [] => rfl
  | p :: r => by
    simp only [List.map_cons, keys_repl k v r]
    by_cases q : p.1 = k <;> simp [q]
theorem pureL_app (l r : List D) : pureL (l ++ r) = (pureL l && pureL r) := pureL_append l r
theorem pure_repl {d : D} (hd : d.pure = true) (k : Key) : ∀ os : List (Key × D), pureL (os.map (·.2)) = true → pureL ((os.map fun kv => if kv.1 = k then (kv.1, d) else kv).map (·.2)) = true
  | [], h => h
  | o :: os, h => by
    simp only [List.map_cons] at h ⊢
    rw [pureL_cons, Bool.and_eq_true] at h ⊢
    refine ⟨?_, pure_repl hd k os h.2⟩
    by_cases q : o.1 = k
    · rw [if_pos q]; exact hd
    · rw [if_neg q]; exact h.1
theorem DsR.put {os : List (Key × D)} {us : List (Key × V)} {d : D} {v : V} {k : Key} (r : DsR K mg m H os us) (rv : RV K mg m H d v) (hd : d.pure = true) (hl : os.length < 100000) : DsR K mg m H (pt os k d) (putK us k v) := by
  obtain ⟨h1, h2, h3, h4⟩ := r
  unfold pt putK
  rw [any_keys h1 k]
  split
  · refine ⟨by rw [keys_repl, keys_repl, h1], rvs_repl rv k h1 h2, pure_repl hd k os h3, by simpa using h4⟩
  · refine ⟨by simp [h1], ?_, ?_, by simp; omega⟩
    · simp only [List.map_append, List.map_cons, List.map_nil]
      exact h2.append (RVs.mk rv (RVs.nil.mpr rfl))
    · simp only [List.map_append, List.map_cons, List.map_nil]
      rw [pureL_app, h3, pureL_cons, hd]
      simp [pureL]
theorem DsR.len {os : List (Key × D)} {us : List (Key × V)} (r : DsR K mg m H os us) : us.length = os.length := by
  have := congrArg List.length r.1
  simpa using this
theorem Rec.frz {u : HO} (h : Rec u) {o v} : u ≠ .frz o v := fun e => by
  rcases h with ⟨C, d, fs, q⟩ | ⟨kvs, q⟩ <;> rw [q] at e <;> cases e
theorem Rec.tup {u : HO} (h : Rec u) {xs : List V} : u ≠ .tup xs := fun e => by
  rcases h with ⟨C, d, fs, q⟩ | ⟨kvs, q⟩ <;> rw [q] at e <;> cases e
theorem Stp.recd {a : Addr} {u u' : HO} (h : H a = some u) (r : Rec u) (r' : Rec u') : Stp m H m (upd H a u') := by
  refine ⟨⟨[], by simp⟩, ⟨[], by simp⟩, rfl, fun b xs hb => ?_, fun b xs hb n1 => ?_, fun b o v hb => ?_, fun b hb => ?_⟩
  · rw [upd_ne (fun z => by rw [z, h] at hb; exact r.tup (Option.some.inj hb))]; exact hb
  · rw [upd_ne (fun z => by rw [z, h] at hb; exact r.lst (Option.some.inj hb))]; exact hb
  · rw [upd_ne (fun z => by rw [z, h] at hb; exact r.frz (Option.some.inj hb))]; exact hb
  · by_cases e : b = a
    · rw [e] at hb
      obtain ⟨ps, q⟩ := hb _ upd_same
      exact (r'.tbl q).elim
    · rw [Fr.up e] at hb; exact hb
theorem tabs_rec {T : List (Addr × Str)} {a : Addr} {u u' : HO} (t : LamX.Tabs T H) (h : H a = some u) (r : Rec u) : LamX.Tabs T (upd H a u') := fun p hp => by
  obtain ⟨ps, h1, h2, h3⟩ := t p hp
  have ne : ∀ b w, H b = some w → ¬ Rec w → b ≠ a := fun b w e n z => by
    rw [z, h] at e
    exact n ((Option.some.inj e) ▸ r)
  refine ⟨ps, by rw [upd_ne (ne _ _ h1 (fun z => z.tbl rfl))]; exact h1, h2, fun pos cv hc => ?_⟩
  obtain ⟨c, e1, e2⟩ := h3 pos cv hc
  exact ⟨c, e1, by rw [upd_ne (ne _ _ e2 (fun z => by unfold LamX.CodeO at z; rcases z with ⟨_, _, _, q⟩ | ⟨_, q⟩ <;> cases q))]; exact e2⟩
/-- an object's content is another one -/
theorem Sim.setObj {n : Nat} {p : Addr × Addr} {o : Ob} {u : HO} {o' : Ob} (S : Sim K mg m s H) (hn : m.psi[n]? = some p) (ho : s.obj[n]? = some o) (ru : Rec u) (h' : ∀ H', H' p.1 = some u → Wk m H m H' → ObR K mg m H' p o') :
    Sim K mg m { s with obj := s.obj.set n o' } (upd H p.1 u) ∧ Stp m H m (upd H p.1 u) := by
  obtain ⟨w, hw, rw_⟩ := (S.ob n p o hn ho).at
  have st : Stp m H m (upd H p.1 u) := Stp.recd hw rw_ ru
  refine ⟨⟨S.cl, S.nd, fun k b zs e1 e2 => ?_, fun b hb => ⟨(S.al b hb).1, fun z => (S.al b hb).2 (st.dom b z)⟩, by rw [S.ol]; simp, fun k q o2 e1 e2 => ?_, S.on, tabs_rec S.tb hw rw_⟩, st⟩
  · obtain ⟨h0, hz, us, h1, h2⟩ := S.ce k b zs e1 e2
    exact ⟨h0, hz, us, by rw [upd_ne (fun z => by rw [z, hw] at h1; exact rw_.lst (Option.some.inj h1))]; exact h1, RVs.mono st.wk _ _ h2⟩
  · by_cases hk : k = n
    · subst hk
      rw [hn] at e1
      cases e1
      have hl : k < s.obj.length := (List.getElem?_eq_some_iff.mp ho).1
      have e3 : (s.obj.set k o')[k]? = some o2 := e2
      rw [List.getElem?_set_self hl] at e3
      cases e3
      exact h' _ upd_same st.wk
    · have e3 : (s.obj.set n o')[k]? = some o2 := e2
      rw [List.getElem?_set_ne (Ne.symm hk)] at e3
      have hb : q.1 ≠ p.1 := by
        intro z
        have k1 := List.getElem?_eq_some_iff.mp e1
        have n1 := List.getElem?_eq_some_iff.mp hn
        obtain ⟨k1, k2⟩ := k1
        obtain ⟨n1, n2⟩ := n1
        have ee : (m.psi.map (·.1))[k]'(by simpa using k1) = (m.psi.map (·.1))[n]'(by simpa using n1) := by rw [List.getElem_map, List.getElem_map, k2, n2, z]
        exact hk ((List.getElem_inj S.on).mp ee)
      exact (S.ob k q o2 e1 e3).keep st.wk fun w' h1 _ => by rw [upd_ne hb]; exact h1
/-- a new object -/
theorem Sim.newObj {p dx : Addr} {u : HO} {o' : Ob} (S : Sim K mg m s H) (hp : H p = none) (ru : Rec u) (h' : ObR K mg { m with psi := m.psi ++ [(p, dx)] } (upd H p u) (p, dx) o') :
    Sim K mg { m with psi := m.psi ++ [(p, dx)] } { s with obj := s.obj ++ [o'] } (upd H p u) ∧ Stp m H { m with psi := m.psi ++ [(p, dx)] } (upd H p u) := by
  have g : Grw H (upd H p u) := Grw.new hp
  have st : Stp m H { m with psi := m.psi ++ [(p, dx)] } (upd H p u) := by
    refine ⟨⟨[], by simp⟩, ⟨[(p, dx)], rfl, fun q hq => ?_⟩, rfl, fun a xs h => g _ _ h, fun a xs h _ => g _ _ h, fun a o v h => g _ _ h, fun a h => g.dom h⟩
    rw [List.mem_singleton.mp hq]
    exact Fr.of hp
  refine ⟨⟨S.cl, S.nd, fun k b zs e1 e2 => ?_, fun b hb => ⟨(S.al b hb).1, fun z => (S.al b hb).2 (st.dom b z)⟩, ?_, fun k q o2 e1 e2 => ?_, ?_, S.tb.ext g⟩, st⟩
  · obtain ⟨h0, hz, us, h1, h2⟩ := S.ce k b zs e1 e2
    exact ⟨h0, hz, us, g _ _ h1, RVs.mono st.wk _ _ h2⟩
  · show (m.psi ++ [(p, dx)]).length = (s.obj ++ [o']).length
    rw [List.length_append, List.length_append, S.ol]; rfl
  · have e1' : (m.psi ++ [(p, dx)])[k]? = some q := e1
    have e2' : (s.obj ++ [o'])[k]? = some o2 := e2
    by_cases hk : k < m.psi.length
    · rw [List.getElem?_append_left hk] at e1'
      rw [List.getElem?_append_left (by rw [← S.ol]; exact hk)] at e2'
      exact (S.ob k q o2 e1' e2').keep st.wk fun w h _ => g _ _ h
    · rw [List.getElem?_append_right (by omega)] at e1'
      rw [List.getElem?_append_right (by rw [← S.ol]; omega), ← S.ol] at e2'
      have hk0 : k - m.psi.length = 0 := by
        have := (List.getElem?_eq_some_iff.mp e1').1
        simp at this
        omega
      rw [hk0] at e1' e2'
      simp at e1' e2'
      subst e1' e2'
      exact h'
  · show ((m.psi ++ [(p, dx)]).map (·.1)).Nodup
    rw [List.map_append]
    refine List.nodup_append.mpr ⟨S.on, by simp, fun b hb c hc e => ?_⟩
    rw [List.mem_singleton.mp hc] at e
    obtain ⟨q, hq, eq⟩ := List.mem_map.mp hb
    obtain ⟨i, hi⟩ := List.mem_iff_getElem?.mp hq
    have hl2 : i < s.obj.length := by rw [← S.ol]; exact (List.getElem?_eq_some_iff.mp hi).1
    obtain ⟨w, hw, _⟩ := (S.ob i q _ hi (List.getElem?_eq_getElem hl2)).at
    rw [eq, e, hp] at hw
    cases hw
end
/-! rules -/
def eDicN : E := fun _ s => .ok (.obj s.obj.length) { s with obj := s.obj ++ [.dic []] }
def gDGet : G2 := fun s d k => (dicAt s d).bind fun kvs => (asKey k).bind fun k => lk kvs k
def gDGet1 : G2 := fun s d k => (dicAt s d).bind fun kvs => (asKey k).bind fun k => some ((lk kvs k).getD .non)
def eDGet2 (fo fk fx : E) : E := fun env s => (fo env s).bind fun d s1 => if (dicAt s1 d).isSome = true then (fk env s1).bind fun k s2 => (fx env s2).bind fun x s3 => Res.of s3 ((dicAt s3 d).bind fun kvs => (asKey k).bind fun k => some ((lk kvs k).getD x)) else .bad
def eDGet1 (fo fk : E) : E := fun env s => (fo env s).bind fun d s1 => if (dicAt s1 d).isSome = true then (fk env s1).bind fun k s2 => Res.of s2 (gDGet1 s2 d k) else .bad
def gDIn : G2 := fun s k d => (dicAt s d).bind fun kvs => (asKey k).bind fun k => some (.bl (lk kvs k).isSome)
def putDic (s : Sto) (d k v : D) : Option Sto := match d with
  | .obj n => match s.obj[n]?, asKey k with
    | some (.dic kvs), some k => if (v.pure && decide (kvs.length < 100000)) = true then some { s with obj := s.obj.set n (.dic (pt kvs k v)) } else none
    | _, _ => none
  | _ => none
def sDPut (fo fk fv : E) : SM := fun env s => (fv env s).st env fun v s1 => (fo env s1).st env fun d s2 => (fk env s2).st env fun k s3 => match putDic s3 d k v with
  | some s4 => .ok .nx env s4
  | none => .bad
def keyD : Key → D
  | .inl i => .int i
  | .inr x => .str x
def gLstK : Sto → D → Option D := fun s d => (dicAt s d).map fun kvs => .lst (kvs.map fun kv => keyD kv.1)
section
variable {X : Cx} {W : WX} {fr cf fr2 fr3 fr4 : Bool} {e a b c o : Expr} {fa fb fc fo fk fv fx : E} {pos pos' apos cpos p : Pos}
theorem se_dicN : SE X W fr (.Dict [] [] pos) eDicN := PE.imp pe_dnewK fun σ H Q ⟨m, env, s, S, E, k⟩ p hp => by
  obtain ⟨S2, st⟩ := S.newObj (o' := .dic []) (dx := p) hp (.inr ⟨_, rfl⟩) ⟨[], upd_same, rfl, RVs.nil.mpr rfl, rfl, by simp⟩
  refine k (.ref p) _ _ st rfl S2 ⟨?_, fun _ l a e => by cases e⟩
  unfold RV
  refine ⟨(p, p), rfl, ?_⟩
  show (m.psi ++ [(p, p)])[s.obj.length]? = some (p, p)
  rw [← S.ol]
  simp
theorem se_dget (hu : X.A.units + 65 < cLine) (ho : SE X W fr2 o fo) (hk : SE X W fr3 a fk) (hs : NoSl a) : SE X W false (.Subscript o a pos) (eOp gDGet fo fk) := PE.imp (pe_dget (by omega) (seF ho) (seF hk) hs) fun σ H Q ⟨m, env, s, S, E, k⟩ => by
  refine use2 (fr := false) S E k fun x y m2 H2 s2 dx dy _ _ S2 E2 rx ry k2 => ?_
  obtain ⟨d, e, k3⟩ := k2.of
  unfold gDGet at e
  obtain ⟨kvs, e1, e2⟩ := Option.bind_eq_some_iff.mp e
  obtain ⟨key, e3, e4⟩ := Option.bind_eq_some_iff.mp e2
  obtain ⟨n, p, us, _, _, _, ex, hp, r⟩ := dic_at S2 rx e1
  have g := r.get key
  rw [e4] at g
  obtain ⟨v, hv, rv⟩ := g
  refine ⟨p.1, v, ex, ?_, k3.ok S2 ⟨rv, fun z => nomatch z⟩⟩
  rw [← hv, ry.key e3]
  exact DGet.k hp
theorem dget_o {K : PySem.W.Frag} {mg : Str → Option Value} {m : WM} {H : Hp} {os : List (Key × D)} {us : List (Key × V)} (r : DsR K mg m H os us) (k : Key) {x : D} {v : V} (rx : RV K mg m H x v) : RV K mg m H ((lk os k).getD x) ((valV us k).getD v) := by
  have g := r.get k
  cases q : lk os k with
  | none => rw [q] at g; simp only at g; rw [g]; exact rx
  | some d =>
    rw [q] at g
    obtain ⟨w, h1, h2⟩ := g
    rw [h1]
    exact h2
theorem se_dget1 (hu : X.A.units + 65 < cLine) (ho : SE X W fr2 o fo) (hk : SE X W fr3 a fk) (mm : M1 X o "get" apos a cpos) : SE X W false (.Call (.Attribute o "get" apos) [a] [] cpos) (eDGet1 fo fk) := PE.imp (pe_dget1 (by omega) (seF ho) (seF hk) mm) fun σ H Q ⟨m, env, s, S, E, k⟩ => by
  refine ⟨m, env, s, S, E, (KontG.bind (R := RD X.K X.mg false H) k).imp fun x H1 ⟨dx, s1, m1, e1, A, k1⟩ => ?_⟩
  have k2 := k1.moveD A.st A.ph
  split at k2
  · rename_i hs
    obtain ⟨kvs, e0⟩ := Option.isSome_iff_exists.mp hs
    obtain ⟨n, p, us, _, _, _, ex, hp, r⟩ := dic_at A.sim A.rel.1 e0
    refine ⟨p.1, ex, .inl ⟨us, .inl hp⟩, m1, env, s1, A.sim, E.mono A.st.wk, (KontG.bind (R := RD X.K X.mg false H1) k2).imp fun y H2 ⟨dy, s2, m2, e2, B, k3⟩ => ?_⟩
    have k4 := k3.moveD B.st B.ph
    obtain ⟨d, e, k5⟩ := k4.of
    unfold gDGet1 at e
    obtain ⟨kvs2, f1, f2⟩ := Option.bind_eq_some_iff.mp e
    obtain ⟨key, f3, f4⟩ := Option.bind_eq_some_iff.mp f2
    cases f4
    obtain ⟨n2, p2, us2, _, _, _, ex2, hp2, r2⟩ := dic_at B.sim (RV.mono B.st.wk _ _ A.rel.1) f1
    have ep : p2.1 = p.1 := by
      have := ex2.symm.trans ex
      injection this
    refine ⟨valV us2 key, ?_, k5.ok B.sim ⟨dget_o r2 key RV.non, fun z => nomatch z⟩⟩
    rw [B.rel.1.key f3, ← ep]
    exact DGet.k hp2
  · exact k2.elim
theorem se_dget2 (hu : X.A.units + 65 < cLine) (ho : SE X W fr2 o fo) (hk : SE X W fr3 a fk) (hx : SE X W fr4 b fx) (mm : M2 X o "get" apos a b cpos) : SE X W false (.Call (.Attribute o "get" apos) [a, b] [] cpos) (eDGet2 fo fk fx) := PE.imp (pe_dget2 (by omega) (seF ho) (seF hk) (seF hx) mm) fun σ H Q ⟨m, env, s, S, E, k⟩ => by
  refine ⟨m, env, s, S, E, (KontG.bind (R := RD X.K X.mg false H) k).imp fun x H1 ⟨dx, s1, m1, e1, A, k1⟩ => ?_⟩
  have k2 := k1.moveD A.st A.ph
  split at k2
  · rename_i hs
    obtain ⟨kvs, e0⟩ := Option.isSome_iff_exists.mp hs
    obtain ⟨n, p, us, _, _, _, ex, hp, r⟩ := dic_at A.sim A.rel.1 e0
    refine ⟨p.1, ex, .inl ⟨us, .inl hp⟩, m1, env, s1, A.sim, E.mono A.st.wk, (KontG.bind (R := RD X.K X.mg false H1) k2).imp fun y H2 ⟨dy, s2, m2, e2, B, k3⟩ => ?_⟩
    have k4 := k3.moveD B.st B.ph
    refine ⟨m2, env, s2, B.sim, (E.mono A.st.wk).mono B.st.wk, (KontG.bind (R := RD X.K X.mg false H2) k4).imp fun z H3 ⟨dz, s3, m3, e3, C, k5⟩ => ?_⟩
    have k6 := k5.moveD C.st C.ph
    obtain ⟨d, e, k7⟩ := k6.of
    obtain ⟨kvs2, f1, f2⟩ := Option.bind_eq_some_iff.mp e
    obtain ⟨key, f3, f4⟩ := Option.bind_eq_some_iff.mp f2
    cases f4
    obtain ⟨n2, p2, us2, _, _, _, ex2, hp2, r2⟩ := dic_at C.sim (RV.mono C.st.wk _ _ (RV.mono B.st.wk _ _ A.rel.1)) f1
    have ep : p2.1 = p.1 := by
      have := ex2.symm.trans ex
      injection this
    refine ⟨valV us2 key, ?_, k7.ok C.sim ⟨dget_o r2 key C.rel.1, fun z => nomatch z⟩⟩
    rw [B.rel.1.key f3, ← ep]
    exact DGet.k hp2
  · exact k2.elim
theorem st_din (hu : X.A.units + 65 < cLine) (hk : SE X W fr2 a fk) (ho : SE X W fr3 o fo) (hm : behindInMarks .In o = false) : ST X W (.Compare a [.In] [o] pos) (bVal (eOp gDIn fk fo)) := PT.imp (pt_cmp (pc_din (by omega) (seF hk) (seF ho)) hm) fun σ H Q h => by
  obtain ⟨m, env, s, S, E, k⟩ := tt_of h
  refine use2 (fr := false) S E k fun x y m2 H2 s2 dx dy _ _ S2 E2 rx ry k2 => ?_
  obtain ⟨d, e, k3⟩ := k2.of
  unfold gDIn at e
  obtain ⟨kvs, e1, e2⟩ := Option.bind_eq_some_iff.mp e
  obtain ⟨key, e3, e4⟩ := Option.bind_eq_some_iff.mp e2
  cases e4
  obtain ⟨n, p, us, _, _, _, ex, hp, r⟩ := dic_at S2 ry e1
  have g := r.get key
  refine ⟨p.1, valV us key, ex, by rw [rx.key e3]; exact DGet.k hp, k3.ok S2 ⟨?_, fun z => nomatch z⟩⟩
  have : (valV us key).isSome = (lk kvs key).isSome := by
    cases q : lk kvs key with
    | none => rw [q] at g; simp only at g; rw [g]; rfl
    | some d' => rw [q] at g; obtain ⟨w, h1, _⟩ := g; rw [h1]; rfl
  rw [this]
  exact RV.bl
theorem ss_dput (hu : X.A.units + 65 < cLine) (ho : SE X W fr2 o fo) (hk : SE X W fr3 a fk) (hv : SE X W fr4 b fv) (hs : swapsWith b (some (.Subscript o a pos')) pos.line X.env = pure false := by rfl) : SS X W fr cf (.Assign [.Subscript o a pos'] b pos) (sDPut fo fk fv) :=
  PS.imp (ps_dput (by omega) (seF ho) (seF hk) (seF hv) hs) fun D σ H ⟨m, env, s, S, E, k⟩ => by
    refine ⟨m, env, s, S, E, (KontS.st (R := RD X.K X.mg false H) k E).imp fun v H1 ⟨dv, s1, m1, e1, A, E1, k1⟩ => ?_⟩
    refine ⟨m1, env, s1, A.sim, E1, (KontS.st (R := RD X.K X.mg false H1) k1 E1).imp fun x H2 ⟨dx, s2, m2, e2, B, E2, k2⟩ => ?_⟩
    refine ⟨m2, env, s2, B.sim, E2, (KontS.st (R := RD X.K X.mg false H2) k2 E2).imp fun y H3 ⟨dy, s3, m3, e3, C, E3, k3⟩ => ?_⟩
    have rv := RV.mono C.st.wk _ _ (RV.mono B.st.wk _ _ A.rel.1)
    have rx := RV.mono C.st.wk _ _ B.rel.1
    cases q : putDic s3 dx dy dv with
    | none => rw [q] at k3; exact k3.elim
    | some s4 =>
      rw [q] at k3
      unfold putDic at q
      cases dx with
      | obj n =>
        simp only at q
        split at q
        · rename_i kvs key q1 q2
          split at q
          · rename_i hc
            rw [Bool.and_eq_true, decide_eq_true_eq] at hc
            cases q
            obtain ⟨pp, ex, hn⟩ := rx.obj'
            obtain ⟨us, hp, r⟩ := C.sim.ob n pp _ hn q1
            obtain ⟨S4, st4⟩ := C.sim.setObj (u := .dK (putK us key v)) (o' := .dic (pt kvs key dv)) hn q1 (.inr ⟨_, rfl⟩) fun H' h' w => ⟨_, h', by
              have r' : DsR X.K X.mg m3 H' kvs us := ⟨r.1, RVs.mono w _ _ r.2.1, r.2.2⟩
              exact r'.put (RV.mono w _ _ rv) hc.1 hc.2⟩
            refine ⟨pp.1, _, ex, by rw [C.rel.1.key q2]; exact DPut.k hp (by rw [r.len, size_lit]; omega), ?_⟩
            exact k3 m3 σ _ st4 (fun _ => rfl) S4 (E3.mono st4.wk)
          · cases q
        · cases q
      | _ => cases q
end
end G

end
section
namespace G
open PySem PySem.Spec PyProof.Rows L2
variable [Tb]
/-! ### list(d.keys()) -/
def tListKeys (te : TE) : TE := fun σ H Q => te σ H fun x H1 => ∃ d kvs, x = .ref d ∧ H1 d = some (.dK kvs) ∧ ∀ p, H1 p = none → Q (.ref p) (upd H1 p (.lst (kvs.map fun kv => kV kv.1)))
section
variable {X : Cx} {e : Expr} {te : TE} {p apos cpos pos : Pos}
theorem pe_listKeys (hc : X.calm = true) (he : PE X e te) (hg : Gl X "list") (hm : X.mg "list" = none) (hv : bootBuiltins "list" = some (.type "list") := by exact boot_list) (hbase : attributeBase e "keys" X.env (eval e X.env) = eval e X.env := by rfl) (hline : (apos.endLine == cpos.line) = true := by rfl)
    (hs : starEach [.Call (.Attribute e "keys" apos) [] [] cpos] X.env = (false, eval (.Call (.Attribute e "keys" apos) [] [] cpos) X.env) :: starEach [] X.env := by rfl) :
    PE X (.Call (.Name "list" p) [.Call (.Attribute e "keys" apos) [] [] cpos] [] pos) (tListKeys te) := by
  refine ⟨fun pins s σ H Q I hq => ?_⟩
  refine wpAny_Call_Name_kw (ld_blt I hg hm hv ?_)
  refine PyProof.Rows.callWith_type1 ?_ hs rfl
  rw [hs]
  show wpAny _ _ (spliced ((false, eval (.Call (.Attribute e "keys" apos) [] [] cpos) X.env) :: backTo pos (starEach [] X.env))) _ _ s
  refine Calls.spliced_cons ?_
  refine wpAny_Call_method (T := "dict") (id := "dict.keys") hbase rfl hline F.plainAttrs_dict F.slot_dict_keys F.type_dict_keys (thn (he.run pins s σ H _ I hq) fun u s1 ⟨x, H1, I1, rx, d, kvs, ex, hd, q⟩ => ?_)
  subst ex
  obtain rfl : u = Value.ref d := rx
  obtain ⟨hz, hs0, vs, kv, hdo⟩ := I1.hok d _ hd
  obtain ⟨ep, hat⟩ := hdo.dictAt
  have lk : kvs.length = vs.length := Paired.length kv
  have I2 : Inv X pins σ H1 { s1 with heap := s1.heap.push { cls := .type "dict_keys", data := .fields #[.ref d] } } := I1.kept (t' := s1.toks) fun b ob q => Heap.get?_push_of_some _ q
  refine ⟨hdo.typeIs, hdo.mapOf.noDict, ?_⟩
  show wpAny _ _ (callWith cpos (.builtin "dict.keys") [.ref d] [] []) _ X.xe s1
  refine method_meetsIn F.slot_dict_keys F.entry_dict_keys rfl (PySem.evalArgs_none ⟨rfl, hdo.typeIs, F.args_dict_keys_1 _, _, PySem.W.kdl_meets_keys (mixKind X.prog X.w) d hs0, ⟨vs, hdo⟩, ?_⟩)
  refine Calls.spliced_nil ?_
  refine PySem.W.kdl_call (PySem.W.kdl_keys (knd := mixKind X.prog X.w) (kvs := vs) (ep := ep)) (I1.ok.hd hc) ⟨⟨_, Heap.get?_push_size _ rfl, rfl, rfl⟩, hat.push _⟩ (by rw [← lk]; exact hz) fun h' tk acc' c' hkeep hS hacc => ?_
  have rk := kv
  refine ⟨.ref _, upd H1 (s1.heap.push { cls := .type "dict_keys", data := .fields #[.ref d] }).objs.size (.lst (kvs.map fun kv => kV kv.1)), I2.laid hkeep (Nat.le_refl _) (show ObjOk X.prog X.w _ _ _ (.lst (kvs.map fun kv => kV kv.1)) from ⟨?_, acc'.toList, c', ?_, ?_⟩), rfl, q _ (I2.hok.fresh (Nat.le_refl _))⟩
  · rw [List.length_map]; exact hz
  · have el : acc'.toList.length = acc'.size := by simp
    refine vals_of_at (by rw [List.length_map, el, hacc.1, lk]) fun j x w h1 h2 => ?_
    obtain ⟨k, y, hky, hi⟩ := hacc.2 j w (by rw [← Array.getElem?_toList]; exact h2)
    have e1 : (kvs.map (·.1))[j]? = some k := by
      rw [KV.keys rk, List.getElem?_map, hky] <;> rfl
    have e2 : (kvs.map fun kv => kV kv.1)[j]? = some (kV k) := by
      have e3 : (kvs.map fun kv => kV kv.1) = (kvs.map (·.1)).map kV := by rw [List.map_map] <;> rfl
      rw [e3, List.getElem?_map, e1] <;> rfl
    rw [e2] at h1
    cases h1
    exact keyIs_rel hi
  · rw [Array.toArray_toList]; exact hS
end
section
variable {X : Cx} {W : WX} {fr2 : Bool} {o : Expr} {fo : E} {p apos cpos pos : Pos}
theorem keys_at {K : PySem.W.Frag} {mg : Str → Option Value} {m : WM} {H : Hp} : ∀ ks : List Key, RVs K mg m H (ks.map keyD) (ks.map kV)
  | [] => RVs.nil.mpr rfl
  | k :: ks => RVs.mk (by cases k <;> first | exact RV.int | exact RV.str) (keys_at ks)
theorem se_lstK (hc : X.calm = true) (hg : Gl X "list") (hm : X.mg "list" = none) (ho : SE X W fr2 o fo) (hbase : attributeBase o "keys" X.env (eval o X.env) = eval o X.env := by rfl) (hline : (apos.endLine == cpos.line) = true := by rfl)
    (hs : starEach [.Call (.Attribute o "keys" apos) [] [] cpos] X.env = (false, eval (.Call (.Attribute o "keys" apos) [] [] cpos) X.env) :: starEach [] X.env := by rfl) : SE X W true (.Call (.Name "list" p) [.Call (.Attribute o "keys" apos) [] [] cpos] [] pos) (eUn gLstK fo) :=
  PE.imp (pe_listKeys hc (seF ho) hg hm boot_list hbase hline hs) fun σ H Q ⟨m, env, s, S, E, k⟩ => by
    refine ⟨m, env, s, S, E, (KontG.bind (R := RD X.K X.mg false H) k).imp fun x H1 ⟨dx, s1, m1, e1, A, k1⟩ => ?_⟩
    have k2 := k1.moveD A.st A.ph
    obtain ⟨d, e, k3⟩ := k2.of
    unfold gLstK at e
    obtain ⟨kvs, e2, e3⟩ := Option.map_eq_some_iff.mp e
    cases e3
    obtain ⟨n, pp, us, _, _, _, ex, hp, r⟩ := dic_at A.sim A.rel.1 e2
    refine ⟨pp.1, us, ex, hp, fun q hq => ?_⟩
    have ek : (us.map fun kv => kV kv.1) = (kvs.map (·.1)).map kV := by rw [← r.1, List.map_map]; rfl
    have ed : (kvs.map fun kv => keyD kv.1) = (kvs.map (·.1)).map keyD := by rw [List.map_map]; rfl
    have rr : RVs X.K X.mg m1 H1 (kvs.map fun kv => keyD kv.1) (us.map fun kv => kV kv.1) := by rw [ek, ed]; exact keys_at _
    rw [ek]
    have rr2 := rr
    rw [ek] at rr2
    refine k3.okG A.sim (Grw.new hq) ⟨?_, fun _ l a e1 e2 => ?_⟩
    · exact RV.newL A.sim rr2 hq (by simp only [List.length_map]; have := r.2.2.2; rw [size_lit]; omega)
    · cases e1
      cases e2
      exact ⟨Fr.of hq, A.sim.avNew (Grw.new hq) hq ⟨_, upd_same⟩, _, upd_same, RVs.mono (wk_new (Grw.new hq) hq) _ _ rr2⟩
end
/-! ### pairs of a number and a truth -/
def dGtA : G2 := fun _ x y => match x, y with
  | .int i, .int j => some (.bl (decide (j < i)))
  | .tup [.int a, .bl b], .tup [.int c, .bl d] => some (.bl (gtP a b c d))
  | _, _ => none
def gMaxA : GL := fun _ ds => match ds with
  | [.int i, .int j] => some (.int (if j > i then j else i))
  | [.tup [.int a, .bl b], .tup [.int c, .bl d]] => some (if gtP c d a b = true then .tup [.int c, .bl d] else .tup [.int a, .bl b])
  | _ => none
section
variable {K : PySem.W.Frag} {mg : Str → Option Value} {m : WM} {H : Hp}
theorem pair_at {a : Int} {b : Bool} {v : V} (r : RV K mg m H (.tup [.int a, .bl b]) v) : ∃ p, v = .ref p ∧ SqT K H p [.int a, .bl b] := by
  obtain ⟨p, vs, e, h, _, rr⟩ := r.tup'
  obtain ⟨v1, w1, e1, r1, r2⟩ := RVs.cons.mp rr
  obtain ⟨v2, w2, e2, r3, r4⟩ := RVs.cons.mp r2
  rw [RVs.nil] at r4
  subst r4 e2 e1
  rw [r1.int', r3.bl'] at h
  exact ⟨p, e, SqT.of h⟩
abbrev rGtA (K : PySem.W.Frag) : R2 := fun x y H Q => rI0 (fun i j => .bl (decide (j < i))) x y H Q ∨ rGtP K x y H Q
theorem op_gtA {X : Cx} (hu : X.A.units + 65 < cLine) : OpR X (compareOp .Gt) (rGtA X.K) := OpR.or op_gt (op_gtP (by omega))
theorem ok_gtA : OkOp K mg true (rGtA K) dGtA := by
  intro m s H x y dx dy d Q S rx ry e k
  unfold dGtA at e
  split at e
  · cases e
    exact .inl ⟨_, _, rx.int', ry.int', fin_sc RV.bl (fun l z => nomatch z) fun v H' g r q => k v H' g r fun _ => q⟩
  · cases e
    obtain ⟨p, e1, h1⟩ := pair_at rx
    obtain ⟨q, e2, h2⟩ := pair_at ry
    exact .inr ⟨p, q, _, _, _, _, e1, e2, h1, h2, fin_sc RV.bl (fun l z => nomatch z) fun v H' g r q => k v H' g r fun _ => q⟩
  · cases e
abbrev rMaxA (K : PySem.W.Frag) : List V → Hp → VK → Prop := fun xs H Q => (∃ i j, xs = [.int i, .int j] ∧ Q (.int (if j > i then j else i)) H) ∨ rMaxP K xs H Q
theorem call_maxA {X : Cx} (hc : X.calm = true) (hu : X.A.units + 65 < cLine) : CallR X (.builtin "max") (rMaxA X.K) := CallR.or (call_max2 hc) (call_maxP hc (by omega))
theorem ok_maxA : OkL K mg true (rMaxA K) gMaxA := by
  intro m s H xs ds d Q S r e k
  unfold gMaxA at e
  split at e
  · cases e
    obtain ⟨v, w, ev, r1, r2⟩ := two r
    exact .inl ⟨_, _, by rw [ev, r1.int', r2.int'], fin_sc RV.int (fun l z => nomatch z) fun v H' g r q => k v H' g r fun _ => q⟩
  · cases e
    obtain ⟨v, w, ev, r1, r2⟩ := two r
    obtain ⟨p, e1, h1⟩ := pair_at r1
    obtain ⟨q, e2, h2⟩ := pair_at r2
    refine .inr ⟨p, q, _, _, _, _, by rw [ev, e1, e2], h1, h2, ?_⟩
    rename_i a b c d
    cases hg : gtP c d a b with
    | true =>
      rw [hg] at k
      rw [if_pos rfl, ← e2]
      exact k _ H Grw.refl r2 fun _ l z => by rw [if_pos rfl] at z; cases z
    | false =>
      rw [hg] at k
      rw [if_neg (by decide), ← e1]
      exact k _ H Grw.refl r1 fun _ l z => by rw [if_neg (by decide)] at z; cases z
  · cases e
end
def dNotB : G2 := fun _ x y => match x, y with
  | .bl a, .bl b => some (.bl (!decide (a = b)))
  | _, _ => none
theorem ok_notB {K : PySem.W.Frag} {mg : Str → Option Value} : OkOp K mg true (fun x y H Q => ∃ a b, x = .bl a ∧ y = .bl b ∧ Q (.bl (!decide (a = b))) H) dNotB := by
  intro m s H x y dx dy d Q S rx ry e k
  unfold dNotB at e
  split at e
  · cases e
    exact ⟨_, _, rx.bl', ry.bl', fin_sc RV.bl (fun l z => nomatch z) fun v H' g r q => k v H' g r fun _ => q⟩
  · cases e
/-! ### objects leave with a def that gives none of them -/
mutual
/-- no object from the number n on, no changeable list -/
def okO (n : Nat) : D → Bool
  | .obj k => decide (k < n)
  | .tup l => okOL n l
  | .lst l => okOL n l
  | _ => true
def okOL (n : Nat) : List D → Bool
  | [] => true
  | d :: l => okO n d && okOL n l
end
def okOb (n : Nat) : Ob → Bool
  | .ins _ fs => okOL n (fs.map (·.2))
  | .dic _ => true
def cutO (n : Nat) (s : Sto) : Sto := { s with obj := s.obj.take n }
def okSt (n : Nat) (s : Sto) : Bool := (s.obj.take n).all (okOb n)
/-- the def's new objects are forgotten -/
def defO (F : Fun1) : Fun1 := fun ds s => match F ds s with
  | .ok d s' => if (okO s.obj.length d && okSt s.obj.length s') = true then .ok d (cutO s.obj.length s') else .bad
  | .err x s' => if okSt s.obj.length s' = true then .err x (cutO s.obj.length s') else .bad
  | .bad => .bad
section
variable {K : PySem.W.Frag} {mg : Str → Option Value} {m m' : WM} {H H' : Hp} {s s' : Sto} {t : List (Addr × Addr)}
theorem okOL_cons {n : Nat} {d : D} {l : List D} : okOL n (d :: l) = (okO n d && okOL n l) := by rw [okOL]
mutual
theorem RV.cutO (hp : m'.psi = m.psi ++ t) : ∀ (d : D) (v : V), okO m.psi.length d = true → RV K mg m' H d v → RV K mg { m' with psi := m.psi } H d v
  | .non, _, _, h => by unfold RV at h ⊢; exact h
  | .bl _, _, _, h => by unfold RV at h ⊢; exact h
  | .int _, _, _, h => by unfold RV at h ⊢; exact h
  | .str _, _, _, h => by unfold RV at h ⊢; exact h
  | .tup l, _, p, h => by
    unfold RV at h ⊢
    obtain ⟨a, vs, e, q1, hl, q2⟩ := h
    exact ⟨a, vs, e, q1, hl, RVs.cutO hp l vs (by unfold okO at p; exact p) q2⟩
  | .lst l, _, p, h => by
    unfold RV at h ⊢
    obtain ⟨a, vs, e, q1, n1, n2, hl, q2⟩ := h
    exact ⟨a, vs, e, q1, n1, n2, hl, RVs.cutO hp l vs (by unfold okO at p; exact p) q2⟩
  | .cel n, _, _, h => by unfold RV at h ⊢; exact h
  | .obj n, _, p, h => by
    unfold okO at p
    have hn : n < m.psi.length := of_decide_eq_true p
    unfold RV at h ⊢
    obtain ⟨q, e, h1⟩ := h
    refine ⟨q, e, ?_⟩
    rw [hp, List.getElem?_append_left hn] at h1
    exact h1
  | .fn _, _, _, h => by unfold RV at h ⊢; exact h
  | .ty _, _, _, h => by unfold RV at h ⊢; exact h
  | .scr _, _, _, h => by unfold RV at h ⊢; exact h
theorem RVs.cutO (hp : m'.psi = m.psi ++ t) : ∀ (ds : List D) (vs : List V), okOL m.psi.length ds = true → RVs K mg m' H ds vs → RVs K mg { m' with psi := m.psi } H ds vs
  | [], _, _, h => by rw [RVs.nil] at h ⊢; exact h
  | d :: ds, _, p, h => by
    obtain ⟨v, r, e, q1, q2⟩ := RVs.cons.mp h
    rw [okOL_cons, Bool.and_eq_true] at p
    exact RVs.cons.mpr ⟨v, r, e, RV.cutO hp d v p.1 q1, RVs.cutO hp ds r p.2 q2⟩
end
mutual
theorem D.pure_okO (n : Nat) : ∀ d : D, d.pure = true → okO n d = true
  | .non, _ => by unfold okO; rfl
  | .bl _, _ => by unfold okO; rfl
  | .int _, _ => by unfold okO; rfl
  | .str _, _ => by unfold okO; rfl
  | .tup l, h => by unfold D.pure at h; unfold okO; exact pureL_okO n l h
  | .lst l, h => by unfold D.pure at h; unfold okO; exact pureL_okO n l h
  | .cel _, h => by unfold D.pure at h; cases h
  | .obj _, h => by unfold D.pure at h; cases h
  | .fn _, _ => by unfold okO; rfl
  | .ty _, _ => by unfold okO; rfl
  | .scr _, _ => by unfold okO; rfl
theorem pureL_okO (n : Nat) : ∀ l : List D, pureL l = true → okOL n l = true
  | [], _ => by unfold okOL; rfl
  | d :: l, h => by
    rw [pureL_cons, Bool.and_eq_true] at h
    rw [okOL_cons, Bool.and_eq_true]
    exact ⟨D.pure_okO n d h.1, pureL_okO n l h.2⟩
end
theorem Sim.cutO (S : Sim K mg m' s' H') (hp : m'.psi = m.psi ++ t) (hl : m.psi.length = s.obj.length) (ok : okSt s.obj.length s' = true) : Sim K mg { m' with psi := m.psi } (G.cutO s.obj.length s') H' := by
  refine ⟨S.cl, S.nd, fun n a xs e1 e2 => ?_, S.al, ?_, fun n p o e1 e2 => ?_, ?_, S.tb⟩
  · obtain ⟨h0, hz, vs, h1, h2⟩ := S.ce n a xs e1 e2
    exact ⟨h0, hz, vs, h1, RVs.cutO hp _ _ (pureL_okO _ _ h0) h2⟩
  · show m.psi.length = (s'.obj.take s.obj.length).length
    have q := S.ol
    rw [hp, List.length_append] at q
    rw [List.length_take]
    omega
  · have hn : n < m.psi.length := (List.getElem?_eq_some_iff.mp e1).1
    have e3 : (s'.obj.take s.obj.length)[n]? = some o := e2
    have e2' : s'.obj[n]? = some o := by
      rw [List.getElem?_take_of_lt (by omega)] at e3
      exact e3
    have e1' : m'.psi[n]? = some p := by rw [hp, List.getElem?_append_left hn]; exact e1
    have hok : okOb s.obj.length o = true := by
      unfold okSt at ok
      rw [List.all_eq_true] at ok
      exact ok o (List.mem_of_getElem? e3)
    have r := S.ob n p o e1' e2'
    cases o with
    | ins cls fs =>
      obtain ⟨C, us, h1, h2, h3, h4, h5, h6⟩ := r
      exact ⟨C, us, h1, h2, h3, RVs.cutO hp _ _ (by rw [hl]; exact hok) h4, h5, h6⟩
    | dic kvs =>
      obtain ⟨us, h2, h3, h4, h5, h6⟩ := r
      exact ⟨us, h2, h3, RVs.cutO hp _ _ (pureL_okO _ _ h5) h4, h5, h6⟩
  · have q := S.on
    rw [hp, List.map_append] at q
    exact (List.nodup_append.mp q).1
theorem Stp.cutO (x : Stp m H m' H') : Stp m H { m' with psi := m.psi } H' := ⟨x.phi, ⟨[], by simp⟩, x.av, x.tup, x.lst, x.frz, x.dom⟩
end
theorem kont_defO {K : PySem.W.Frag} {mg : Str → Option Value} {fr : Bool} {m : WM} {H : Hp} {s : Sto} {ds : List D} {F : Fun1} {W : XK} {Q : VK} (S : Sim K mg m s H) (h : KontG K mg (RD K mg fr H) W m H (defO F ds s) Q) : KontG K mg (RD K mg fr H) W m H (F ds s) Q := by
  unfold defO at h
  cases e : F ds s with
  | bad => rw [e] at h; exact h
  | ok d s' =>
    rw [e] at h
    simp only at h
    split at h
    · rename_i hc
      rw [Bool.and_eq_true] at hc
      intro b m' H' st ph S' r
      obtain ⟨t, hp, _⟩ := st.psi
      refine h b { m' with psi := m.psi } H' st.cutO ph (S'.cutO hp S.ol hc.2) ⟨RV.cutO hp d b (by rw [S.ol]; exact hc.1) r.1, fun z l a e1 e2 => ?_⟩
      obtain ⟨q1, q2, vs, q3, q4⟩ := r.2 z l a e1 e2
      have hp2 : ({ m' with av := a :: m'.av } : WM).psi = m.psi ++ t := hp
      refine ⟨q1, ?_, vs, q3, ?_⟩
      · exact Sim.cutO (m := { m with av := a :: m'.av }) (m' := { m' with av := a :: m'.av }) q2 hp2 S.ol hc.2
      · refine RVs.cutO (m := { m with av := a :: m'.av }) (m' := { m' with av := a :: m'.av }) hp2 l vs ?_ q4
        have := hc.1
        rw [e1] at this
        unfold okO at this
        show okOL m.psi.length l = true
        rw [S.ol]; exact this
    · exact h.elim
  | err x s' =>
    rw [e] at h
    simp only at h
    split at h
    · rename_i hc
      intro c dx m' H' st ph S' r
      obtain ⟨t, hp, _⟩ := st.psi
      exact h c dx { m' with psi := m.psi } H' st.cutO ph (S'.cutO hp S.ol hc) r
    · exact h.elim
theorem Cal.defO {P : Program} {w : World} {K : PySem.W.Frag} {mg : Str → Option Value} {base : Heap} {k n : Nat} {x : Str} {fr : Bool} {F : Fun1} (c : Cal P w K mg base k x n fr F) : Cal P w K mg base k x n fr (G.defO F) := by
  obtain ⟨f, fd, ps, ok, h⟩ := c
  refine ⟨f, fd, ps, ?_, h⟩
  exact ok.imp fun vs H Q E ⟨m, ds, s, S, r, hl, kk⟩ => ⟨m, ds, s, S, r, hl, kont_defO S kk⟩
end G

end
section
namespace G
open PySem PySem.Spec L2
/-! ### walks over lists that may be changed, as long as they are not -/
mutual
def beqD : D → D → Bool
  | .non, .non => true
  | .bl a, .bl b => a == b
  | .int a, .int b => decide (a = b)
  | .str a, .str b => decide (a = b)
  | .tup a, .tup b => beqDL a b
  | .lst a, .lst b => beqDL a b
  | .cel a, .cel b => decide (a = b)
  | .obj a, .obj b => decide (a = b)
  | .fn a, .fn b => decide (a = b)
  | .ty a, .ty b => decide (a = b)
  | .scr a, .scr b => decide (a = b)
  | _, _ => false
def beqDL : List D → List D → Bool
  | [], [] => true
  | x :: a, y :: b => beqD x y && beqDL a b
  | _, _ => false
end
mutual
theorem beqD_eq : ∀ {a b : D}, beqD a b = true → a = b
  | .non, b, h => by cases b <;> simp [beqD] at h <;> rfl
  | .bl x, b, h => by cases b <;> simp [beqD] at h <;> rw [h]
  | .int x, b, h => by cases b <;> simp [beqD] at h <;> rw [h]
  | .str x, b, h => by cases b <;> simp [beqD] at h <;> rw [h]
  | .cel x, b, h => by cases b <;> simp [beqD] at h <;> rw [h]
  | .obj x, b, h => by cases b <;> simp [beqD] at h <;> rw [h]
  | .fn x, b, h => by cases b <;> simp [beqD] at h <;> rw [h]
  | .ty x, b, h => by cases b <;> simp [beqD] at h <;> rw [h]
  | .scr x, b, h => by cases b <;> simp [beqD] at h <;> rw [h]
  | .tup x, b, h => by cases b <;> simp [beqD] at h <;> rw [beqDL_eq h]
  | .lst x, b, h => by cases b <;> simp [beqD] at h <;> rw [beqDL_eq h]
theorem beqDL_eq : ∀ {a b : List D}, beqDL a b = true → a = b
  | [], b, h => by cases b <;> simp [beqDL] at h <;> rfl
  | x :: a, b, h => by
    cases b with
    | nil => simp [beqDL] at h
    | cons y b =>
      simp [beqDL] at h
      rw [beqD_eq h.1, beqDL_eq h.2]
end
mutual
theorem beqD_refl : ∀ a : D, beqD a a = true
  | .non => by simp [beqD]
  | .bl x => by simp [beqD]
  | .int x => by simp [beqD]
  | .str x => by simp [beqD]
  | .cel x => by simp [beqD]
  | .obj x => by simp [beqD]
  | .fn x => by simp [beqD]
  | .ty x => by simp [beqD]
  | .scr x => by simp [beqD]
  | .tup x => by simp [beqD, beqDL_refl x]
  | .lst x => by simp [beqD, beqDL_refl x]
theorem beqDL_refl : ∀ a : List D, beqDL a a = true
  | [] => by simp [beqDL]
  | x :: a => by simp [beqDL, beqD_refl x, beqDL_refl a]
end
variable [Tb]
/-- the items, and of which changeable list -/
abbrev LK := List D × Option Nat
abbrev EKL := Env → Sto → Res LK
def chk (k : LK) (s : Sto) : Bool := match k.2 with
  | none => true
  | some n => match s.cel[n]? with
    | some xs => beqDL xs k.1
    | none => false
def forLK (k : LK) (p : Pat) (body : SM) : List D → SM
  | [], env, s => if chk k s = true then .ok .nx env s else .bad
  | d :: ds, env, s => if chk k s = true then (match p.bind d env with
    | none => .bad
    | some env1 => match body env1 s with
      | .ok .nx env2 s2 => forLK k p body ds env2 s2
      | .ok .ct env2 s2 => forLK k p body ds env2 s2
      | .ok .bk env2 s2 => .ok .nx env2 s2
      | .ok (.rt d) env2 s2 => .ok (.rt d) env2 s2
      | .err x env2 s2 => .err x env2 s2
      | .bad => .bad) else .bad
def sForK (p : Pat) (it : EKL) (body : SM) : SM := fun env s => (it env s).st env fun k s1 => forLK k p body k.1 env s1
def lcLK (k : LK) (p : Pat) (t : EB) (f : E) (env : Env) : List D → Sto → Res (List D)
  | [], s => if chk k s = true then .ok [] s else .bad
  | d :: ds, s => if chk k s = true then (match p.bind d env with
    | none => .bad
    | some env1 => match t env1 s with
      | .ok true s1 => (match f env1 s1 with
        | .ok y s2 => (lcLK k p t f env ds s2).bind fun ys s3 => .ok (y :: ys) s3
        | _ => .bad)
      | .ok false s1 => lcLK k p t f env ds s1
      | _ => .bad) else .bad
def eLcK (own : List Nat) (p : Pat) (it : EKL) (t : EB) (f : E) : E := fun env s => (it env s).bind fun k s1 => (lcLK k p t f (wipeE env own) k.1 s1).bind fun ys s2 => .ok (.lst ys) s2
def lkOf (s : Sto) : D → Option LK
  | .cel n => (s.cel[n]?).map fun xs => (xs, some n)
  | d => (seqOf d).map fun l => (l, none)
def iSeqK (fa : E) : EKL := fun env s => (fa env s).bind fun d s1 => Res.of s1 (lkOf s1 d)
section
variable (K : PySem.W.Frag) (mg : Str → Option Value)
def ItOkK (m : WM) (H : Hp) (J : It) (k : LK) : Prop := k.1.length ≤ sizeLine ∧ ∀ (i : Nat) m2 H2 s2, Wk m H m2 H2 → Sim K mg m2 s2 H2 → chk k s2 = true →
  (∀ d, k.1[i]? = some d → J.go i H2 ∧ ∀ x H3, J.yld i H2 x H3 → Grw H2 H3 ∧ RV K mg m2 H3 d x) ∧ (i = k.1.length → J.stop i H2)
def tIK (W : WX) (g : EKL) : TI := fun σ H R => ∃ m env s, Sim K mg m s H ∧ EnvR K mg m H env σ ∧ KontG K mg (fun m' H' _ k J => ItOkK K mg m' H' J k) (fun c d H' => W c d σ H') m H (g env s) R
end
theorem ItOk.k {K : PySem.W.Frag} {mg : Str → Option Value} {m : WM} {H : Hp} {J : It} {ds : List D} (h : ItOk K mg m H J ds) : ItOkK K mg m H J (ds, none) := ⟨h.1, fun i m2 H2 _ w _ _ => h.2 i m2 H2 w⟩
theorem itOk_cel {K : PySem.W.Frag} {mg : Str → Option Value} {m : WM} {H : Hp} {s : Sto} {n : Nat} {a : Addr} {xs : List D} (S : Sim K mg m s H) (hn : m.phi[n]? = some a) (hx : s.cel[n]? = some xs) : ItOkK K mg m H (Itl K a) (xs, some n) := by
  refine ⟨(S.ce n a xs hn hx).2.1, fun i m2 H2 s2 w S2 c => ?_⟩
  unfold chk at c
  simp only at c
  split at c
  · rename_i ys hy
    have e := beqDL_eq c
    subst e
    obtain ⟨l, hl, _⟩ := w.phi
    have hn2 : m2.phi[n]? = some a := by rw [hl, List.getElem?_append_left (List.getElem?_eq_some_iff.mp hn).1]; exact hn
    obtain ⟨h0, hz, vs, h1, r⟩ := S2.ce n a ys hn2 hy
    have hq : SqL K H2 a vs := SqL.of h1
    refine ⟨fun d hd => ?_, fun e => ⟨vs, hq, by rw [r.length, e]; exact Nat.le_refl _⟩⟩
    obtain ⟨v, hv, rv⟩ := r.get hd
    refine ⟨⟨vs, v, hq, hv⟩, fun x H3 ⟨e3, hx3⟩ => ?_⟩
    have := hx3 vs hq
    rw [hv] at this
    cases this
    rw [e3]
    exact ⟨Grw.refl, rv⟩
  · cases c
section
variable {X : Cx} {W : WX} {fr cf fr2 fr3 : Bool} {e a b c tg iter elt : Expr} {fa fb fc : E} {ga gb : EB} {gi : EKL} {p : Pat} {pos spos : Pos} {st : Stmt} {sts rest body : List Stmt} {g h : SM}
theorem si_seqK (he : SE X W fr2 e fa) : PI X tg e (tIK X.K X.mg W (iSeqK fa)) := PI.imp (pi_seqAll (seF he)) fun σ H R ⟨m, env, s, S, E, k⟩ => by
  refine ⟨m, env, s, S, E, (KontG.bind (R := RD X.K X.mg false H) k).imp fun x H1 ⟨dx, s1, m1, e1, A, k1⟩ => ?_⟩
  obtain ⟨ds, ed, k2⟩ := k1.of
  have fin : ∀ J, ItOkK X.K X.mg m1 H1 J ds → R J H1 := fun J hJ => k2 J m1 H1 A.st A.ph A.sim hJ
  cases dx with
  | cel n =>
    unfold lkOf at ed
    obtain ⟨xs, q1, q2⟩ := Option.map_eq_some_iff.mp ed
    cases q2
    obtain ⟨a, ea, hn⟩ := A.rel.1.cel'
    subst ea
    obtain ⟨h0, hz, vs, h1, r⟩ := A.sim.ce n a xs hn q1
    exact .inl ⟨a, rfl, ⟨vs, SqL.of h1⟩, fin _ (itOk_cel A.sim hn q1)⟩
  | lst l =>
    cases ed
    obtain ⟨a, vs, e, h1, _⟩ := A.rel.1.lst'
    subst e
    exact .inl ⟨a, rfl, ⟨vs, SqL.of h1⟩, fin _ (itOk_list A.rel.1).k⟩
  | tup l =>
    cases ed
    obtain ⟨a, vs, e, h1, _⟩ := A.rel.1.tup'
    subst e
    exact .inr (.inl ⟨a, rfl, ⟨vs, SqT.of h1⟩, fin _ (itOk_tup A.rel.1).k⟩)
  | str z =>
    unfold lkOf at ed
    obtain ⟨l, q1, q2⟩ := Option.map_eq_some_iff.mp ed
    cases q2
    have q1' : (if z.length ≤ 16777216 then some (signs z) else none) = some l := q1
    split at q1'
    · rename_i hz
      cases q1'
      exact .inr (.inr ⟨z, A.rel.1.str', fin _ (itOk_str hz).k⟩)
    · cases q1'
  | _ => cases ed
theorem forLK_c (k : LK) (p : Pat) (body : SM) (l : List D) (env : Env) (s : Sto) : forLK k p body l env s = if chk k s = true then (match l with
  | [] => .ok .nx env s
  | d :: ds => match p.bind d env with
    | none => .bad
    | some env1 => match body env1 s with
      | .ok .nx env2 s2 => forLK k p body ds env2 s2
      | .ok .ct env2 s2 => forLK k p body ds env2 s2
      | .ok .bk env2 s2 => .ok .nx env2 s2
      | .ok (.rt d) env2 s2 => .ok (.rt d) env2 s2
      | .err x env2 s2 => .err x env2 s2
      | .bad => .bad) else .bad := by
  cases l with
  | nil => rfl
  | cons d ds => rw [forLK] <;> rfl
theorem ss_forK (hp : PassesOwn (model X.prog X.w) X.A X.env X.xe) (hc : X.calm = true) (hi : PI X tg iter (tIK X.K X.mg W gi)) (hg : SG X tg p) (hb : SSs X W fr cf body g) (hs : ∀ x, foldedSetIterable iter X.env x = pure x := by intro _; rfl) : SS X W fr cf (.For tg iter body [] pos) (sForK p gi g) :=
  PS.imp (ps_for hp hc hi hg hb hs) fun D σ H ⟨m, env, s, S, E, k⟩ => by
    refine ⟨m, env, s, S, E, (KontS.st k E).imp fun J H1 ⟨kk, s1, m1, e1, A, E1, k1⟩ => ?_⟩
    obtain ⟨hz, it⟩ := A.rel
    refine ⟨fun i n σ' H' => ∃ m2 env2 s2, Stp m1 H1 m2 H' ∧ Sim X.K X.mg m2 s2 H' ∧ EnvR X.K X.mg m2 H' env2 σ' ∧ n = kk.1.length - i ∧ i ≤ kk.1.length ∧ KontS X.K X.mg W fr cf m2 H' (forLK kk p g (kk.1.drop i) env2 s2) D, ⟨_, m1, env, s1, Stp.refl, A.sim, E1, rfl, Nat.zero_le _, k1⟩, ?_⟩
    rintro i n σ2 H2 ⟨m2, env2, s2, st2, S2, E2, rfl, hle, k2⟩
    rw [forLK_c] at k2
    by_cases hch : chk kk s2 = true
    · rw [if_pos hch] at k2
      obtain ⟨i1, i2⟩ := it i m2 H2 s2 st2.wk S2 hch
      cases q : kk.1[i]? with
      | none =>
        refine .inl ⟨i2 (Nat.le_antisymm hle (List.getElem?_eq_none_iff.mp q)), ?_⟩
        rw [List.drop_eq_nil_of_le (List.getElem?_eq_none_iff.mp q)] at k2
        exact k2.nx S2 E2
      | some d =>
        obtain ⟨hlt, hd⟩ := List.getElem?_eq_some_iff.mp q
        obtain ⟨go, yl⟩ := i1 d q
        refine .inr ⟨go, fun σ' H' => ∃ m4 env4 s4, Stp m1 H1 m4 H' ∧ Sim X.K X.mg m4 s4 H' ∧ EnvR X.K X.mg m4 H' env4 σ' ∧ KontS X.K X.mg W fr cf m4 H' (forLK kk p g (kk.1.drop (i + 1)) env4 s4) D,
          fun σ' H' ⟨m4, env4, s4, y1, y2, y3, y4⟩ => ⟨kk.1.length - (i + 1), by omega, m4, env4, s4, y1, y2, y3, rfl, hlt, y4⟩, fun x H3 hy => ?_⟩
        obtain ⟨gr, rx⟩ := yl x H3 hy
        rw [List.drop_eq_getElem_cons hlt, hd] at k2
        have k2' := k2.move (Grw.stp gr) fun _ => rfl
        simp only at k2'
        cases qb : p.bind d env2 with
        | none =>
          rw [qb] at k2'
          exact k2'.elim
        | some env3 =>
          rw [qb] at k2'
          refine ⟨m2, d, env2, env3, rx, E2.mono (Grw.stp gr).wk, qb, fun σ3 E3 _ => ⟨m2, env3, s2, S2.grw gr, E3, ?_⟩⟩
          have st3 : Stp m1 H1 m2 H3 := st2.trans (Grw.stp gr)
          simp only at k2'
          revert k2'
          cases (g env3 s2) with
          | ok fl env4 s4 =>
            cases fl with
            | nx => exact fun k m' σ' H' x1 x2 x3 x4 => ⟨m', env4, s4, st3.trans x1, x3, x4, k.move x1 x2⟩
            | ct => exact fun k m' σ' H' x1 x2 x3 x4 => ⟨m', env4, s4, st3.trans x1, x3, x4, k.move x1 x2⟩
            | bk => exact fun k => k
            | rt d => exact fun k => k
          | err x env4 s4 => exact fun k => k
          | bad => exact fun k => k
    · rw [if_neg hch] at k2
      exact k2.elim
theorem lcLK_c (k : LK) (p : Pat) (t : EB) (f : E) (env : Env) (l : List D) (s : Sto) : lcLK k p t f env l s = if chk k s = true then (match l with
  | [] => .ok [] s
  | d :: ds => match p.bind d env with
    | none => .bad
    | some env1 => match t env1 s with
      | .ok true s1 => (match f env1 s1 with
        | .ok y s2 => (lcLK k p t f env ds s2).bind fun ys s3 => .ok (y :: ys) s3
        | _ => .bad)
      | .ok false s1 => lcLK k p t f env ds s1
      | _ => .bad) else .bad := by
  cases l with
  | nil => rfl
  | cons d ds => rw [lcLK] <;> rfl
theorem lc_impK {K : PySem.W.Frag} {mg : Str → Option Value} {own : List Nat} {gt : EB} (hp : ∀ i ∈ p.slots, i ∈ own) (σ : L2.St) (H : Hp) (Q : VK) (h0 : tE K mg W true (eLcK own p gi gt fa) σ H Q) :
    tLc (tIK K mg W gi) (tG K mg p) (tT K mg W0 gt) (tE K mg W0 false fa) own σ H Q := by
  obtain ⟨m, env, s, S, E, k⟩ := h0
  refine ⟨m, env, s, S, E, (KontG.bind k).imp fun J H1 ⟨kk, s1, m1, e1, A, k1⟩ => ?_⟩
  obtain ⟨hz, it⟩ := A.rel
  have k1' := k1.moveD A.st A.ph
  have E1 := E.mono A.st.wk
  intro Dd hDd
  -- the state while the list is made
  refine ⟨fun i n H' => ∃ m2 s2 acc ads, Stp m1 H1 { m2 with av := m1.av } H' ∧ m2.phi = m1.phi ∧ m2.av = Dd :: m1.av ∧ Sim K mg m2 s2 H' ∧ H' Dd = some (.lst acc) ∧ RVs K mg m2 H' ads acc ∧ ads.length ≤ i ∧ n = kk.1.length - i ∧ i ≤ kk.1.length ∧
    lcLK kk p gt fa (wipeE env (own)) kk.1 s1 = (lcLK kk p gt fa (wipeE env (own)) (kk.1.drop i) s2).bind fun ys s3 => .ok (ads ++ ys) s3, ?_, ?_⟩
  · have g : Grw H1 (upd H1 Dd (.lst [])) := Grw.new hDd
    refine ⟨_, { m1 with av := Dd :: m1.av }, s1, [], [], Grw.stp g, rfl, rfl, A.sim.avNew g hDd ⟨_, upd_same⟩, upd_same, RVs.nil.mpr rfl, Nat.le_refl _, rfl, Nat.zero_le _, ?_⟩
    rw [List.drop_zero]
    cases lcLK kk p gt fa (wipeE env (own)) kk.1 s1 <;> rfl
  · rintro i n H2 ⟨m2, s2, acc, ads, st2, ph2, av2, S2, hD2, rD2, hl2, rfl, hi2, eq2⟩
    have wk2 : Wk m1 H1 m2 H2 := by
      refine ⟨⟨[], by simp [ph2]⟩, let ⟨l, e, _⟩ := st2.psi; ⟨l, e⟩, fun b hb => ?_, st2.tup, fun b zs hb n _ => st2.lst b zs hb n, st2.frz⟩
      rw [av2] at hb
      rcases List.mem_cons.mp hb with e | hb
      · exact .inr (by rw [e]; exact Fr.of hDd)
      · exact .inl hb
    have kk0 : KontG K mg (RD K mg true H1) (fun c d H' => W c d σ H') m1 H1 (((lcLK kk p gt fa (wipeE env (own)) (kk.1.drop i) s2).bind fun ys s3 => .ok (ads ++ ys) s3).bind fun ys s3 => .ok (.lst ys) s3) Q := by
      rw [← eq2]
      exact k1'
    rw [lcLK_c kk p gt fa (wipeE env (own)) (kk.1.drop i) s2] at eq2 kk0
    have hch : chk kk s2 = true := by
      cases hq : chk kk s2 with
      | true => rfl
      | false =>
        rw [hq, if_neg (by decide)] at kk0
        exact kk0.elim
    rw [if_pos hch] at eq2 kk0
    obtain ⟨i1, i2⟩ := it i m2 H2 s2 wk2 S2 hch
    cases q : kk.1[i]? with
    | none =>
      refine .inl ⟨i2 (Nat.le_antisymm hi2 (List.getElem?_eq_none_iff.mp q)), ?_⟩
      rw [List.drop_eq_nil_of_le (List.getElem?_eq_none_iff.mp q)] at kk0
      have kk' : KontG K mg (RD K mg true H1) (fun c d H' => W c d σ H') m1 H1 (.ok (.lst ads) s2) Q := by
        have e : ads ++ ([] : List D) = ads := List.append_nil _
        rw [← e]
        exact kk0
      have wb : Wk m2 H2 { m2 with av := m1.av } H2 := by
        refine ⟨⟨[], by simp⟩, ⟨[], by simp⟩, fun b hb => .inl (by rw [av2]; exact List.mem_cons_of_mem _ hb), fun _ _ h => h, fun _ _ h _ _ => h, fun _ _ _ h => h⟩
      refine kk' (.ref Dd) { m2 with av := m1.av } H2 st2 ph2 ⟨S2.cl, S2.nd, fun n b zs e1 e2 => ?_, fun b hb => S2.al b (by rw [av2]; exact List.mem_cons_of_mem _ hb), S2.ol, fun n p o e1 e2 => ?_, S2.on, S2.tb⟩ ⟨?_, fun _ l a e1 e2 => by cases e1; cases e2; exact ⟨Fr.of hDd, by rw [← av2]; exact S2, acc, hD2, by rw [← av2]; exact rD2⟩⟩
      · obtain ⟨h0, hz', vs, h1, h2⟩ := S2.ce n b zs e1 e2
        exact ⟨h0, hz', vs, h1, RVs.mono wb _ _ h2⟩
      · exact (S2.ob n p o e1 e2).keep wb fun u h _ => h
      · unfold RV
        refine ⟨Dd, acc, rfl, hD2, by rw [ph2]; exact A.sim.noPhi hDd, A.sim.noAv hDd, by omega, RVs.mono wb _ _ rD2⟩
    | some d =>
      obtain ⟨hlt, hd⟩ := List.getElem?_eq_some_iff.mp q
      obtain ⟨go, yl⟩ := i1 d q
      refine .inr ⟨go, fun H' => ∃ m4 s4 acc4 ads4, Stp m1 H1 { m4 with av := m1.av } H' ∧ m4.phi = m1.phi ∧ m4.av = Dd :: m1.av ∧ Sim K mg m4 s4 H' ∧ H' Dd = some (.lst acc4) ∧ RVs K mg m4 H' ads4 acc4 ∧ ads4.length ≤ i + 1 ∧
        lcLK kk p gt fa (wipeE env (own)) kk.1 s1 = (lcLK kk p gt fa (wipeE env (own)) (kk.1.drop (i + 1)) s4).bind fun ys s3 => .ok (ads4 ++ ys) s3,
        fun H' ⟨m4, s4, acc4, ads4, y1, y2, y3, y4, y5, y6, y7, y8⟩ => ⟨kk.1.length - (i + 1), by omega, m4, s4, acc4, ads4, y1, y2, y3, y4, y5, y6, y7, rfl, hlt, y8⟩, fun x H3 hy => ?_⟩
      obtain ⟨gr, rx⟩ := yl x H3 hy
      rw [List.drop_eq_getElem_cons hlt, hd] at eq2 kk0
      simp only at eq2 kk0
      have E3 : EnvR K mg m2 H3 (wipeE env (own)) (wipe σ (own)) := ((wipeE_env (E1.mono wk2) _).mono (Grw.stp gr).wk)
      cases qb : p.bind d (wipeE env (own)) with
      | none =>
        rw [qb] at kk0
        exact kk0.elim
      | some env3 =>
        rw [qb] at kk0 eq2
        simp only at kk0 eq2
        refine ⟨m2, d, _, env3, rx, E3, qb, fun σ3 E4 o3 => ⟨wipe_idem ⟨o3.1, fun j hj => o3.2 j fun z => hj (hp j z)⟩, ?_⟩⟩
        have S3 := S2.grw gr
        refine ⟨m2, env3, s2, S3, E4, ?_⟩
        cases qt : gt env3 s2 with
        | bad =>
          rw [qt] at kk0
          exact kk0.elim
        | err x s3 =>
          rw [qt] at kk0
          exact kk0.elim
        | ok bb s3 =>
          rw [qt] at kk0 eq2
          intro bb' m3 H4 t1 t2 t3 t4
          subst t4
          have st4 : Stp m1 H1 { m3 with av := m1.av } H4 := (st2.trans (Grw.stp gr)).trans (t1.avs m1.av)
          have ph4 : m3.phi = m1.phi := t2.trans ph2
          have av4 : m3.av = Dd :: m1.av := t1.av.trans av2
          have hD4 : H4 Dd = some (.lst acc) := t1.lst Dd acc (gr _ _ hD2) (by rw [ph2]; exact A.sim.noPhi hDd)
          have rD4 : RVs K mg m3 H4 ads acc := RVs.mono t1.wk _ _ (rD2.grw gr)
          cases bb with
          | false =>
            rw [if_neg (by decide)]
            exact ⟨m3, s3, acc, ads, st4, ph4, av4, t3, hD4, rD4, by omega, eq2⟩
          | true =>
            rw [if_pos rfl]
            refine ⟨m3, env3, s3, t3, E4.mono t1.wk, ?_⟩
            simp only at kk0 eq2
            cases qf : fa env3 s3 with
            | bad =>
              rw [qf] at kk0
              exact kk0.elim
            | err x s4 =>
              rw [qf] at kk0
              exact kk0.elim
            | ok y s4 =>
              rw [qf] at kk0 eq2
              simp only at kk0 eq2
              intro v m5 H5 u1 u2 u3 u4
              have hD5 : H5 Dd = some (.lst acc) := u1.lst Dd acc hD4 (by rw [ph4]; exact A.sim.noPhi hDd)
              have ph5 : m5.phi = m1.phi := u2.trans ph4
              have av5 : m5.av = Dd :: m1.av := u1.av.trans av4
              obtain ⟨S5, w5⟩ := u3.upav (ys := acc ++ [v]) (a := Dd) (by rw [av5]; exact List.mem_cons_self) hD5
              refine ⟨acc, hD5, ?_, m5, s4, acc ++ [v], ads ++ [y], (st4.trans (u1.avs m1.av)).upNew hDd, ph5, av5, S5, upd_same, RVs.mono w5 _ _ ((RVs.mono u1.wk _ _ rD4).append (RVs.mk u4.1 (RVs.nil.mpr rfl))), by rw [List.length_append]; simp; omega, ?_⟩
              · rw [rD2.length]; omega
              · rw [eq2]
                cases lcLK kk p gt fa (wipeE env (own)) (kk.1.drop (i + 1)) s4 with
                | ok ys s5 => simp
                | err x s5 => rfl
                | bad => rfl
theorem se_lcK {ifs : List Expr} {scope : Scope} {own : List (Str × Nat)} {gt : EB} (hc : X.calm = true) (hN : X.N.Nodup) (hi : PI X tg iter (tIK X.K X.mg W gi)) (ok : BlkOk X.N X.env.scope scope own)
    (hg : ∀ (s : Shared) (H : Hp) (C : Addr) (cl : List (Str × Addr)) (fp : List Addr), SG (X.blk s H scope (compEnvC scope cl C X.env) fp) tg p) (ht : ∀ (s : Shared) (H : Hp) (C : Addr) (cl : List (Str × Addr)) (fp : List Addr), PTs (X.blk s H scope (compEnvC scope cl C X.env) fp) ifs (tT X.K X.mg W0 gt))
    (he : ∀ (s : Shared) (H : Hp) (C : Addr) (cl : List (Str × Addr)) (fp : List Addr), SE (X.blk s H scope (compEnvC scope cl C X.env) fp) W0 fr2 elt fa) (hp : ∀ i ∈ p.slots, i ∈ own.map (·.2) := by decide) (hs : ∀ x, foldedSetIterable iter X.env x = pure x := by intro _; rfl) :
    SE X W true (.ListComp elt [⟨tg, iter, ifs, 0⟩] scope pos) (eLcK (own.map (·.2)) p gi gt fa) := PE.imp (pe_lc (g := tG X.K X.mg p) (te := tE X.K X.mg W0 false fa) hc hN hi ok hg ht (fun s H C cl fp => seF (X := X.blk s H scope (compEnvC scope cl C X.env) fp) (he s H C cl fp)) hs) (lc_impK hp)
theorem ss_setLcK {i : Nat} {y : Str} {py : Pos} {ifs : List Expr} {scope : Scope} {own : List (Str × Nat)} {gt : EB} (hc : X.calm = true) (hN : X.N.Nodup) (hy : X.N[i]? = some y) (hyl : X.env.scope.names.lookup y = some .local)
    (hsw : swapsWith (.ListComp elt [⟨tg, iter, ifs, 0⟩] scope pos) (some (.Name y py)) spos.line X.env = pure true) (hi : PI X tg iter (tIK X.K X.mg W gi)) (ok : BlkOk X.N X.env.scope scope own)
    (hg : ∀ (s : Shared) (H : Hp) (C : Addr) (cl : List (Str × Addr)) (fp : List Addr), SG (X.blk s H scope (compEnvC scope cl C X.env) fp) tg p) (ht : ∀ (s : Shared) (H : Hp) (C : Addr) (cl : List (Str × Addr)) (fp : List Addr), PTs (X.blk s H scope (compEnvC scope cl C X.env) fp) ifs (tT X.K X.mg W0 gt))
    (he : ∀ (s : Shared) (H : Hp) (C : Addr) (cl : List (Str × Addr)) (fp : List Addr), SE (X.blk s H scope (compEnvC scope cl C X.env) fp) W0 fr2 elt fa) (hp : ∀ i ∈ p.slots, i ∈ own.map (·.2) := by decide) (hs : ∀ x, foldedSetIterable iter X.env x = pure x := by intro _; rfl) :
    SS X W fr cf (.Assign [.Name y py] (.ListComp elt [⟨tg, iter, ifs, 0⟩] scope pos) spos) (sSet i (eLcK (own.map (·.2)) p gi gt fa)) :=
  ss_set_of (fr2 := true) (ps_setLc (g := tG X.K X.mg p) (te := tE X.K X.mg W0 false fa) hc hN hy hyl hsw hi ok hg ht (fun s H C cl fp => seF (X := X.blk s H scope (compEnvC scope cl C X.env) fp) (he s H C cl fp)) hs) (lc_impK hp)
theorem ss_celLcK {i : Nat} {y : Str} {py : Pos} {ifs : List Expr} {scope : Scope} {own : List (Str × Nat)} {gt : EB} (hc : X.calm = true) (hN : X.N.Nodup) (hy : X.N[i]? = some y) (hyl : X.env.scope.names.lookup y = some .local)
    (hsw : swapsWith (.ListComp elt [⟨tg, iter, ifs, 0⟩] scope pos) (some (.Name y py)) spos.line X.env = pure true) (hi : PI X tg iter (tIK X.K X.mg W gi)) (ok : BlkOk X.N X.env.scope scope own)
    (hg : ∀ (s : Shared) (H : Hp) (C : Addr) (cl : List (Str × Addr)) (fp : List Addr), SG (X.blk s H scope (compEnvC scope cl C X.env) fp) tg p) (ht : ∀ (s : Shared) (H : Hp) (C : Addr) (cl : List (Str × Addr)) (fp : List Addr), PTs (X.blk s H scope (compEnvC scope cl C X.env) fp) ifs (tT X.K X.mg W0 gt))
    (he : ∀ (s : Shared) (H : Hp) (C : Addr) (cl : List (Str × Addr)) (fp : List Addr), SE (X.blk s H scope (compEnvC scope cl C X.env) fp) W0 fr2 elt fa) (hp : ∀ i ∈ p.slots, i ∈ own.map (·.2) := by decide) (hs : ∀ x, foldedSetIterable iter X.env x = pure x := by intro _; rfl) :
    SS X W fr true (.Assign [.Name y py] (.ListComp elt [⟨tg, iter, ifs, 0⟩] scope pos) spos) (sCel i (eLcK (own.map (·.2)) p gi gt fa)) :=
  ss_cel_of (ps_setLc (g := tG X.K X.mg p) (te := tE X.K X.mg W0 false fa) hc hN hy hyl hsw hi ok hg ht (fun s H C cl fp => seF (X := X.blk s H scope (compEnvC scope cl C X.env) fp) (he s H C cl fp)) hs) (lc_impK hp)
end
end G

end
section
namespace G
open PySem PySem.Spec PyProof.Rows L2
variable [Tb]
/-! ### sorted of a list of data -/
/-- what can be sorted: alike data; or no more than one empty tuple -/
def SrtOk (ds : List PyData) : Prop := PySem.W.AllAlike ds ∧ (PySem.W.Sortable ds ∨ ds = [.tuple []])
section
variable {prog : Program} {w : World} {A : Around} {E : Value → Shared → Prop} {s : Shared} {β : Type} {vs : List Value} {bs : List β} {enc : β → PyData} {R : Value → β → Prop}
theorem sortsOne {ds : List PyData} {us : List Value} (hd : ds = [.tuple []]) (e : PySem.W.EachIs (fun v d => ∃ as, Reads s.heap v d as) us ds) (hu : A.units + 1 < cLine) : PySem.W.SortsAt prog w A s (PySem.W.dataKind s.heap ds) us := by
  subst hd
  have hal : PySem.W.AllAlike [.tuple []] := fun d h d' h' => by
    rw [List.mem_singleton] at h h'
    rw [h, h']
    rfl
  have hl := e.length
  refine ⟨fun v hv => ?_, ?_⟩
  · obtain ⟨d, hd, as, r⟩ := e.left v hv
    exact ⟨_, PySem.W.dataKind_some hal hd r⟩
  · refine ⟨tuples' false, ?_, fun h2 => absurd h2 (by rw [hl]; simp)⟩
    intro E x y a b Q ha hb hq
    obtain ⟨d, as, hd, ra, rfl⟩ := PySem.W.dataKind_inv ha
    obtain ⟨d', as', hd', rb, rfl⟩ := PySem.W.dataKind_inv hb
    rw [List.mem_singleton] at hd hd'
    subst hd hd'
    have hq' : Q (PySem.W.dataLt (.tuple []) (.tuple [])) s := hq
    rw [PySem.W.dataLt_tuple] at hq'
    cases ra with
    | @tuple l o xs n _ _ h1 h2 h3 h4 =>
      cases rb with
      | @tuple l' o' xs' n' _ _ k1 k2 k3 k4 =>
        have n1 : xs.size = 0 := by simpa using SeqAt.ReadsAll.length _ _ _ h4
        have n2 : xs'.size = 0 := by simpa using SeqAt.ReadsAll.length _ _ _ k4
        exact PySem.W.kat_lt h1 h3 k1 k3 (PySem.W.katLex_alike [] [] 0 _ _ _ _ h4 k4 rfl (by simp [PyData.depthAll]; omega) (fun hb => by cases hb) (by rw [n1, n2]; rfl) hq')
theorem sorted_dataG {l : Addr} {Q : Value → Shared → Prop} (hl : s.heap.IsList l vs.toArray) (e : PySem.W.EachIs R vs bs) (er : PySem.W.EachIs (fun v b => ∃ as, Reads s.heap v (enc b) as) vs bs) (hk : SrtOk (bs.map enc)) (hL : bs.length ≤ sizeLine)
    (hu : ∀ b, b ∈ bs → A.units + 2 + (enc b).depth < cLine) (h : ∀ out, out.length = bs.length → PySem.W.EachIs R out (bs.mergeSort (PySem.W.dataLe false enc)) → Q (.ref (s.heap.objs.size + 1)) { s with heap := sortedAll s.heap vs (List.toArray out) }) :
    wpAny (model prog w) A (call (.builtin "sorted") [.ref l]) Q E s := by
  obtain ⟨hal, hk | hk⟩ := hk
  · exact PySem.W.sorted_data hl e er hal hk hL hu h
  · have er' : PySem.W.EachIs (fun v b => ∃ as, Reads (PySem.W.sortingHeap (PySem.W.copyHeap s.heap vs) (s.heap.objs.size + 1) vs) v (enc b) as) vs bs := er.mono fun _ _ ⟨as, r⟩ => ⟨as, PyProof.Rows.Reads.keeps (fun _ _ => PySem.W.sorting_copy_old) r⟩
    have hn : 1 ≤ bs.length := by
      have := congrArg List.length hk
      rw [List.length_map] at this
      simp at this
      omega
    have hu1 : A.units + 2 + 1 < cLine := by
      cases bs with
      | nil => simp at hn
      | cons b r =>
        have h1 := hu b (List.mem_cons_self ..)
        have h2 : enc b = .tuple [] := by
          rw [List.map_cons] at hk
          exact (List.cons.inj hk).1
        rw [h2] at h1
        simpa [PyData.depth, PyData.depthAll] using h1
    exact PySem.W.sorted_vals hl (sortsOne (s := { s with heap := PySem.W.sortingHeap (PySem.W.copyHeap s.heap vs) (s.heap.objs.size + 1) vs }) hk (PySem.W.each_map (R := fun v d => ∃ as, Reads (PySem.W.sortingHeap (PySem.W.copyHeap s.heap vs) (s.heap.objs.size + 1) vs) v d as) enc er') (by first | omega | (simp [Around.units, Around.in1]; omega))) (by rw [e.length]; exact hL)
      (h _ (by rw [PySem.W.sortVals_length false rfl]; exact e.length) (PySem.W.sortVals_data false e er' hal))
end
section
variable {K : PySem.W.Frag} {mg : Str → Option Value} {m : WM} {H : Hp}
/-- sorted(xs), xs a list of data: a new list of the same things, in order -/
def rSortD (K : PySem.W.Frag) : List V → Hp → VK → Prop := fun vs H Q => ∃ (a : Addr) (xs : List V) (ds : List PyData), vs = [V.ref a] ∧ SqL K H a xs ∧ DpAll K H xs ds ∧ SrtOk ds ∧ (∀ d ∈ ds, d.depth ≤ 60) ∧
  ∀ p, H p = none → Q (.ref p) (upd H p (.lst (((xs.zip ds).mergeSort (PySem.W.dataLe false Prod.snd)).map Prod.fst)))
theorem dpAll_len : ∀ {xs : List V} {ds : List PyData}, DpAll K H xs ds → xs.length = ds.length
  | _, _, .nil => rfl
  | _, _, .cons _ h => by rw [List.length_cons, List.length_cons, dpAll_len h]
theorem each_dp {rd : Value → PyData → Prop} : ∀ {xs : List V} {ds : List PyData} {us : List Value}, DpAll K H xs ds → Vals xs us → (∀ d v u, Dp K H v d → RelV v u → rd u d) → PySem.W.EachIs (fun u (b : V × PyData) => RelV b.1 u) us (xs.zip ds) ∧ PySem.W.EachIs (fun u (b : V × PyData) => rd u b.2) us (xs.zip ds)
  | _, _, _, .nil, .nil, _ => ⟨.nil, .nil⟩
  | _, _, _, .cons h1 h2, .cons r1 r2, hr => by
    obtain ⟨a, b⟩ := each_dp h2 r2 hr
    exact ⟨.cons r1 a, .cons (hr _ _ _ h1 r1) b⟩
theorem each_vals : ∀ {us : List Value} {bs : List (V × PyData)}, PySem.W.EachIs (fun u (b : V × PyData) => RelV b.1 u) us bs → Vals (bs.map Prod.fst) us
  | _, _, .nil => .nil
  | _, _, .cons h t => .cons h (each_vals t)
theorem cr_sortD {X : Cx} (hu : X.A.units + 65 < cLine) : CallR X (.builtin "sorted") (rSortD X.K) := by
  intro pins s σ H vs us Q I r h
  obtain ⟨a, xs, ds, rfl, hs, hdp, hk, hdep, q⟩ := h
  obtain ⟨its, rv, hl, hz⟩ := I.list hs
  obtain ⟨u, rfl, ru⟩ := vals1 r
  obtain rfl : u = Value.ref a := ru
  have hlen := dpAll_len hdp
  obtain ⟨e1, e2⟩ := each_dp (rd := fun u d => ∃ as, Reads s.heap u d as) hdp rv fun d v u h1 h2 => Dp.reads I d v u h1 h2
  have hsnd : (xs.zip ds).map Prod.snd = ds := List.map_snd_zip (by omega)
  have hzl : (xs.zip ds).length = xs.length := by rw [List.length_zip, ← hlen, Nat.min_self]
  refine sorted_dataG (enc := Prod.snd) hl.isList e1 e2 (by rw [hsnd]; exact hk) (by rw [hzl]; exact hz) (fun b hb => ?_) fun out ho eo => ?_
  · have := hdep b.2 (List.of_mem_zip hb).2
    omega
  · obtain ⟨n, hn⟩ := sortedAll_at s.heap its out.toArray
    have hv := each_vals eo
    refine ⟨.ref _, upd H (s.heap.objs.size + 1) (.lst (((xs.zip ds).mergeSort (PySem.W.dataLe false Prod.snd)).map Prod.fst)), I.laid (t' := s.toks) (fun b o e => sortedAll_old e) (Nat.le_succ _) ⟨?_, out, n, hv, hn⟩, rfl, q _ (I.hok.fresh (Nat.le_succ _))⟩
    rw [List.length_map, List.length_mergeSort, hzl]
    exact hz
def tupNe : D → Bool
  | .tup (_ :: _) => true
  | _ => false
def notTup : D → Bool
  | .tup _ => false
  | .non => false
  | _ => true
/-- what can be sorted -/
def srtB (l : List D) : Bool := okD (.lst l) && (l.all fun x => l.all fun y => PySem.W.alike (toPy x) (toPy y)) && (l.all tupNe || l.all notTup || (match l with | [.tup []] => true | _ => false))
def sortD (l : List D) : List D := l.mergeSort (PySem.W.dataLe false toPy)
def gSort : GL := fun s ds => match ds with
  | [d] => (asL s d).bind fun l => if srtB l = true then some (.lst (sortD l)) else none
  | _ => none
theorem toPyL_mem : ∀ {l : List D} {d : PyData}, d ∈ toPyL l → ∃ x ∈ l, d = toPy x
  | [], d, h => by simp [toPyL] at h
  | x :: l, d, h => by
    rw [toPyL] at h
    rcases List.mem_cons.mp h with e | h
    · exact ⟨x, List.mem_cons_self .., e⟩
    · obtain ⟨y, hy, e⟩ := toPyL_mem h
      exact ⟨y, List.mem_cons_of_mem _ hy, e⟩
theorem toPyL_eq : ∀ l : List D, toPyL l = l.map toPy
  | [] => by simp [toPyL]
  | x :: l => by rw [toPyL, toPyL_eq l, List.map_cons]
theorem srt_ok {l : List D} (h : srtB l = true) : SrtOk (toPyL l) := by
  unfold srtB at h
  rw [Bool.and_eq_true, Bool.and_eq_true] at h
  obtain ⟨⟨h0, h1⟩, h2⟩ := h
  have hdat : ∀ x ∈ l, isData x = true := by
    have h3 := okD_data h0
    unfold isData at h3
    have gen : ∀ l : List D, isDataL l = true → ∀ x ∈ l, isData x = true := by
      intro l
      induction l with
      | nil => intro _ x hx; cases hx
      | cons y l ih =>
        intro h x hx
        simp only [isDataL, Bool.and_eq_true] at h
        rcases List.mem_cons.mp hx with e | hx
        · rw [e]; exact h.1
        · exact ih h.2 x hx
    exact gen l h3
  refine ⟨fun d hd d' hd' => ?_, ?_⟩
  · obtain ⟨x, hx, rfl⟩ := toPyL_mem hd
    obtain ⟨y, hy, rfl⟩ := toPyL_mem hd'
    exact List.all_eq_true.mp (List.all_eq_true.mp h1 x hx) y hy
  · rw [Bool.or_eq_true, Bool.or_eq_true] at h2
    rcases h2 with (h2 | h2) | h2
    · refine .inl (.inl fun d hd => ?_)
      obtain ⟨x, hx, rfl⟩ := toPyL_mem hd
      have := List.all_eq_true.mp h2 x hx
      unfold tupNe at this
      split at this
      · rw [toPy, toPyL]; exact ⟨_, _, rfl⟩
      · cases this
    · refine .inl (.inr fun d hd => ?_)
      obtain ⟨x, hx, rfl⟩ := toPyL_mem hd
      have := List.all_eq_true.mp h2 x hx
      have hx' := hdat x hx
      cases x <;> simp [notTup, isData] at this hx' <;> simp [toPy]
    · split at h2
      · exact .inr (by simp [toPyL, toPy])
      · cases h2
theorem rvs_pairs : ∀ {z : List (V × D)}, (∀ p ∈ z, RV K mg m H p.2 p.1) → RVs K mg m H (z.map Prod.snd) (z.map Prod.fst)
  | [], _ => RVs.nil.mpr rfl
  | p :: z, h => RVs.mk (h p (List.mem_cons_self ..)) (rvs_pairs fun q hq => h q (List.mem_cons_of_mem _ hq))
theorem rvs_zip : ∀ {l : List D} {vs : List V}, RVs K mg m H l vs → ∀ p ∈ vs.zip l, RV K mg m H p.2 p.1
  | [], vs, _, p, hp => by simp at hp
  | d :: l, vs, r, p, hp => by
    obtain ⟨v, w, e, r1, r2⟩ := RVs.cons.mp r
    subst e
    rw [List.zip_cons_cons] at hp
    rcases List.mem_cons.mp hp with e | hp
    · rw [e]; exact r1
    · exact rvs_zip r2 p hp
theorem ok_sort : OkL K mg true (rSortD K) gSort := by
  intro m s H xs ds d Q S r e k
  have k' : ∀ v H', Grw H H' → RV K mg m H' d v → (∀ l, d = .lst l → NewL K mg m H H' l v) → Q v H' := fun v H' g r f => k v H' g r fun _ => f
  unfold gSort at e
  split at e
  · rename_i dd
    obtain ⟨l, q, e⟩ := Option.bind_eq_some_iff.mp e
    split at e
    · rename_i hb
      cases e
      obtain ⟨v, rfl, r1⟩ := one r
      obtain ⟨p, vs, rfl, h1, hz, r2⟩ := asL_at S r1 q
      have hb' := hb
      unfold srtB at hb'
      rw [Bool.and_eq_true, Bool.and_eq_true] at hb'
      have hok := hb'.1.1
      have hdl : isDataL l = true := by have h3 := okD_data hok; unfold isData at h3; exact h3
      have hlen := r2.length
      have ez : vs.zip (toPyL l) = (vs.zip l).map fun p => (p.1, toPy p.2) := by
        rw [toPyL_eq]
        rw [List.zip_map_right]
        rfl
      have em : ((vs.zip (toPyL l)).mergeSort (PySem.W.dataLe false Prod.snd)).map Prod.fst = ((vs.zip l).mergeSort (PySem.W.dataLe false fun p => toPy p.2)).map Prod.fst := by
        rw [ez, ← PySem.W.sort_maps (r := PySem.W.dataLe false fun p : V × D => toPy p.2) (fun p : V × D => (p.1, toPy p.2)) (fun _ _ _ _ => rfl), List.map_map]
        rfl
      have el : sortD l = ((vs.zip l).mergeSort (PySem.W.dataLe false fun p => toPy p.2)).map Prod.snd := by
        have e5 := PySem.W.sort_maps (r := PySem.W.dataLe false fun p : V × D => toPy p.2) (s := PySem.W.dataLe false toPy) (l := vs.zip l) Prod.snd (fun _ _ _ _ => rfl)
        rw [e5, List.map_snd_zip (by omega)]
        rfl
      have rr : RVs K mg m H (sortD l) (((vs.zip (toPyL l)).mergeSort (PySem.W.dataLe false Prod.snd)).map Prod.fst) := by
        rw [em, el]
        exact rvs_pairs fun p hp => rvs_zip r2 p (List.mem_mergeSort.mp hp)
      refine ⟨p, vs, toPyL l, rfl, SqL.of h1, Dp_ofL l vs hdl r2, srt_ok hb, fun d hd => ?_, fun t ht => fin_lst S rr ?_ ht k'⟩
      · obtain ⟨x, hx, rfl⟩ := toPyL_mem hd
        have h4 : depthL l ≤ 59 := by
          unfold okD at hok
          rw [Bool.and_eq_true] at hok
          have h5 := of_decide_eq_true hok.2
          simp only [depthD] at h5
          omega
        have gen : ∀ l : List D, isDataL l = true → ∀ x ∈ l, (toPy x).depth ≤ depthL l := by
          intro l
          induction l with
          | nil => intro _ x hx; cases hx
          | cons y l ih =>
            intro h x hx
            simp only [isDataL, Bool.and_eq_true] at h
            simp only [depthL]
            rcases List.mem_cons.mp hx with e | hx
            · rw [e, (toPy_lay.1 y h.1).2]; omega
            · have := ih h.2 x hx; omega
        have := gen l hdl x hx
        omega
      · unfold sortD
        rw [List.length_mergeSort]
        exact hz
    · cases e
  · cases e
/-! ### min of a list of whole numbers -/
def minI : List Int → Int
  | [] => 0
  | [x] => x
  | x :: y :: l => if minI (y :: l) < x then minI (y :: l) else x
theorem minI_mem : ∀ {l : List Int}, l ≠ [] → minI l ∈ l
  | [], h => absurd rfl h
  | [x], _ => by simp [minI]
  | x :: y :: l, _ => by
    have ih := minI_mem (l := y :: l) (by simp)
    unfold minI
    split
    · exact List.mem_cons_of_mem _ ih
    · exact List.mem_cons_self ..
theorem minI_le : ∀ {l : List Int}, ∀ y ∈ l, minI l ≤ y
  | [], y, h => by cases h
  | [x], y, h => by
    rw [List.mem_singleton] at h
    rw [h]
    simp [minI]
  | x :: z :: l, y, h => by
    have ih := fun y hy => minI_le (l := z :: l) y hy
    unfold minI
    rcases List.mem_cons.mp h with e | h
    · rw [e]; split <;> omega
    · have := ih y h
      split <;> omega
def gMinL : GL := fun s ds => match ds with
  | [d] => (asL s d).bind fun l => (asInts l).bind fun ns => if ns.isEmpty = true then none else some (.int (minI ns))
  | _ => none
theorem ok_minL : OkL K mg true (rMin K) gMinL := by
  intro m s H xs ds d Q S r e k
  unfold gMinL at e
  split at e
  · rename_i dd
    obtain ⟨l, q, e⟩ := Option.bind_eq_some_iff.mp e
    obtain ⟨ns, q2, e⟩ := Option.bind_eq_some_iff.mp e
    split at e
    · cases e
    · rename_i hne
      cases e
      obtain ⟨v, rfl, r1⟩ := one r
      obtain ⟨p, vs, rfl, h1, hz, r2⟩ := asL_at S r1 q
      have ev := asInts_at q2 r2
      subst ev
      have hne' : ns ≠ [] := fun z => hne (by rw [z]; rfl)
      refine ⟨p, ns, rfl, SqL.of h1, List.length_pos_iff.mpr hne', fun mm hm hle => ?_⟩
      have e1 : mm = minI ns := by
        have a := hle _ (minI_mem hne')
        have b := minI_le (l := ns) mm hm
        omega
      rw [e1]
      exact fin_sc RV.int (fun _ z => nomatch z) fun v H' g r f => k v H' g r fun _ => f
  · cases e
end
end G

end
section
/-! list(zip(xs, ys)): the zip's tuples are all held by the list that grows -/
namespace ZL
open PySem PySem.Spec PyProof.Rows
section
variable {prog : Program} {w : World} {A : Around} {E : Value → Shared → Prop} {s : Shared} {z TI TO T i1 i2 S : Addr} {fp1 fp2 : List Addr} {n1 n2 i : Nat} {P1 P2 : Nat → Value → Prop} {St1 St2 : Nat → Heap → Prop} {f : Bool} {oT : Obj}
theorem held_item {Q : Value → Shared → Prop} (S : ZipSep2 z TI TO i1 i2 fp1 fp2) (D1 : Draws prog w A i1 fp1 n1 P1 St1) (D2 : Draws prog w A i2 fp2 n2 P2 St2)
    (hz : IsZipHeld s.heap z TI TO T f) (hT : s.heap.get? T = some oT) (hTI : IsTupOf2 s.heap TI (.ref i1) (.ref i2)) (st1 : St1 i s.heap) (st2 : St2 i s.heap) (hlt1 : i < n1) (hlt2 : i < n2)
    (hQ : ∀ x1 x2 h' tk, P1 i x1 → P2 i x2 → IsZipHeld h' z TI TO T true → St1 (i + 1) h' → St2 (i + 1) h' → IsTupOf2 h' s.heap.objs.size x1 x2 → h'.objs.size = s.heap.objs.size + 1 →
      (∀ c o, c ≠ z → c ≠ i1 → c ≠ i2 → s.heap.get? c = some o → h'.get? c = some o) → Q (.ref s.heap.objs.size) { s with heap := h', toks := tk }) :
    wpAny (model prog w) A (Builtin.«zip.__next__» ⟨[.ref z], []⟩) (fun fin s' => ∃ v, fin = .done (.ret v) ∧ Q v s') E s := by
  obtain ⟨hp, g, d, tk0, os⟩ := s
  show wpAny _ _ (field (.ref z) 2 >>= _) _ _ _
  refine wpAny_bind (wpAny_field hz rfl (x := .bool false) rfl ?_)
  show wpAny _ _ (field (.ref z) 3 >>= _) _ _ _
  refine wpAny_bind (wpAny_field hz rfl (x := .ref TI) rfl ?_)
  refine wpAny_bind (wpAny_seqItems hTI rfl ?_)
  show wpAny _ _ (Builtin.SmallTypes.ownedTupleIsFree (.ref z) >>= _) _ _ _
  refine wpAny_bind (wpAny_tupleHeld_zip hz hT fun h₁ hz₁ hs₁ => ?_)
  replace hs₁ : Heap.SameBut z hp h₁ := hs₁
  simp only [Bool.false_eq_true, if_false]
  refine wpAny_bind ?_
  rw [← Array.forIn_toList]
  simp only [List.forIn_cons, List.forIn_nil]
  refine wpAny_bind (wpAny_bind (wpAny_holding ?_))
  show wpAny _ _ (Builtin.SmallTypes.nextOf (.ref i1) >>= _) _ _ _
  refine wpAny_bind (D1.item i ⟨h₁, g, d, tk0, os⟩ _ _ hlt1 (D1.over st1 hs₁ S.zf1) fun x1 p1 tk1 hx1 sn1 hp1 => wpAny_pure ?_)
  replace hp1 : Heap.SameBut i1 h₁ p1 := hp1
  refine wpAny_pure ?_
  refine wpAny_bind (wpAny_bind (wpAny_holding ?_))
  show wpAny _ _ (Builtin.SmallTypes.nextOf (.ref i2) >>= _) _ _ _
  refine wpAny_bind (D2.item i ⟨p1, g, d, tk1, os⟩ _ _ hlt2 (D2.over (D2.over st2 hs₁ S.zf2) hp1 S.sep1_2) fun x2 p2 tk2 hx2 sn2 hp2 => wpAny_pure ?_)
  replace hp2 : Heap.SameBut i2 p1 p2 := hp2
  refine wpAny_pure (wpAny_pure ?_)
  show wpAny _ _ (newTuple [x1, x2] >>= _) _ _ _
  refine wpAny_bind (wpAny_newTuple ?_)
  have hsz : p2.objs.size = hp.objs.size := by rw [hp2.1, hp1.1, hs₁.1]
  have hz₃ : IsZipHeld p2 z TI TO T true := hp2.extBut _ _ S.zi2 (hp1.extBut _ _ S.zi1 hz₁)
  have hk : ∀ c o, c ≠ z → c ≠ i1 → c ≠ i2 → hp.get? c = some o → p2.get? c = some o := fun c o c1 c2 c3 e => hp2.extBut _ _ c3 (hp1.extBut _ _ c2 (hs₁.extBut _ _ c1 e))
  have hj1 : St1 (i + 1) p2 := D1.over sn1 hp2 S.sep2_1
  refine wpAny_pure ⟨_, rfl, ?_⟩
  show Q (.ref p2.objs.size) _
  have hp' : IsTupOf2 (p2.push { cls := .type "tuple", data := .seq #[x1, x2] }) p2.objs.size x1 x2 := Heap.get?_push_size _ rfl
  have hz4 : (p2.push { cls := .type "tuple", data := .seq #[x1, x2] }).objs.size = p2.objs.size + 1 := Heap.size_push ..
  rw [hsz] at hp' hz4 ⊢
  exact hQ x1 x2 _ tk2 hx1 hx2 (Heap.get?_push_of_some _ hz₃) (D1.frame _ _ _ hj1 fun b _ o e => Heap.get?_push_of_some _ e) (D2.frame _ _ _ sn2 fun b _ o e => Heap.get?_push_of_some _ e) hp' hz4 fun c o c1 c2 c3 e => Heap.get?_push_of_some _ (hk c o c1 c2 c3 e)
theorem held_end {Q : Fin → Shared → Prop} (S : ZipSep2 z TI TO i1 i2 fp1 fp2) (D1 : Draws prog w A i1 fp1 n1 P1 St1) (D2 : Draws prog w A i2 fp2 n2 P2 St2)
    (hz : IsZipHeld s.heap z TI TO T f) (hT : s.heap.get? T = some oT) (hTI : IsTupOf2 s.heap TI (.ref i1) (.ref i2)) (st1 : St1 i s.heap) (st2 : St2 i s.heap) (hle1 : i ≤ n1) (hle2 : i ≤ n2) (hend : i = n1 ∨ i = n2)
    (hE : ∀ h' tk e, (∀ c o, c ≠ z → c ≠ i1 → c ≠ i2 → s.heap.get? c = some o → h'.get? c = some o) → (∃ o, h'.get? e = some o ∧ o.cls = .type "StopIteration") → E (.ref e) { s with heap := h', toks := tk }) :
    wpAny (model prog w) A (Builtin.«zip.__next__» ⟨[.ref z], []⟩) Q E s := by
  obtain ⟨hp, g, d, tk0, os⟩ := s
  show wpAny _ _ (field (.ref z) 2 >>= _) _ _ _
  refine wpAny_bind (wpAny_field hz rfl (x := .bool false) rfl ?_)
  show wpAny _ _ (field (.ref z) 3 >>= _) _ _ _
  refine wpAny_bind (wpAny_field hz rfl (x := .ref TI) rfl ?_)
  refine wpAny_bind (wpAny_seqItems hTI rfl ?_)
  show wpAny _ _ (Builtin.SmallTypes.ownedTupleIsFree (.ref z) >>= _) _ _ _
  refine wpAny_bind (wpAny_tupleHeld_zip hz hT fun h₁ hz₁ hs₁ => ?_)
  replace hs₁ : Heap.SameBut z hp h₁ := hs₁
  simp only [Bool.false_eq_true, if_false]
  refine wpAny_bind ?_
  rw [← Array.forIn_toList]
  simp only [List.forIn_cons, List.forIn_nil]
  refine wpAny_bind (wpAny_bind (wpAny_holding ?_))
  show wpAny _ _ (Builtin.SmallTypes.nextOf (.ref i1) >>= _) _ _ _
  by_cases hlt1 : i < n1
  · refine wpAny_bind (D1.item i ⟨h₁, g, d, tk0, os⟩ _ _ hlt1 (D1.over st1 hs₁ S.zf1) fun x1 p1 tk1 hx1 sn1 hp1 => wpAny_pure ?_)
    replace hp1 : Heap.SameBut i1 h₁ p1 := hp1
    refine wpAny_pure ?_
    have hi2 : i = n2 := by omega
    refine wpAny_bind (wpAny_bind (wpAny_holding ?_))
    show wpAny _ _ (Builtin.SmallTypes.nextOf (.ref i2) >>= _) _ _ _
    refine wpAny_bind (D2.done ⟨p1, g, d, tk1, os⟩ _ _ (by rw [← hi2]; exact D2.over (D2.over st2 hs₁ S.zf2) hp1 S.sep1_2) fun q e hq he => ?_)
    replace hq : Heap.ExtBut i2 p1 q := hq
    exact hE q tk1 e (fun c o cz c1 c2 x => hq _ _ c2 (hp1.extBut _ _ c1 (hs₁.extBut _ _ cz x))) he
  · have hi1 : i = n1 := by omega
    refine wpAny_bind (D1.done ⟨h₁, g, d, tk0, os⟩ _ _ (by rw [← hi1]; exact D1.over st1 hs₁ S.zf1) fun q e hq he => ?_)
    replace hq : Heap.ExtBut i1 h₁ q := hq
    exact hE q tk0 e (fun c o cz c1 c2 x => hq _ _ c1 (hs₁.extBut _ _ cz x)) he
theorem pyNext_held_item {Q : Option Value → Shared → Prop} (S : ZipSep2 z TI TO i1 i2 fp1 fp2) (D1 : Draws prog w A.in1 i1 fp1 n1 P1 St1) (D2 : Draws prog w A.in1 i2 fp2 n2 P2 St2)
    (hz : IsZipHeld s.heap z TI TO T f) (hT : s.heap.get? T = some oT) (hTI : IsTupOf2 s.heap TI (.ref i1) (.ref i2)) (st1 : St1 i s.heap) (st2 : St2 i s.heap) (hlt1 : i < n1) (hlt2 : i < n2)
    (hQ : ∀ x1 x2 h' tk, P1 i x1 → P2 i x2 → IsZipHeld h' z TI TO T true → St1 (i + 1) h' → St2 (i + 1) h' → IsTupOf2 h' s.heap.objs.size x1 x2 → h'.objs.size = s.heap.objs.size + 1 →
      (∀ c o, c ≠ z → c ≠ i1 → c ≠ i2 → s.heap.get? c = some o → h'.get? c = some o) → Q (some (.ref s.heap.objs.size)) { s with heap := h', toks := tk }) :
    wpAny (model prog w) A (pyNext (.ref z)) Q E s := by
  have hT' : s.TypeIs (.ref z) "zip" := ⟨_, hz, rfl⟩
  unfold pyNext
  exact wpAny_bind (wpAny_attempt (wpAny_callSpecial?_slot (name := Str.ofString "__next__") hT' F.slot_zip_next
    (wpAny_call_entry F.slot_zip_next hT' F.entry_zip_next
      (held_item S D1 D2 hz hT hTI st1 st2 hlt1 hlt2 fun x1 x2 h' tk y1 y2 b1 b2 d1 d2 b5 b6 => wpAny_pure (hQ x1 x2 h' tk y1 y2 b1 b2 d1 d2 b5 b6)) (F.args_zip_next_1 _))))
theorem pyNext_held_end {Q : Option Value → Shared → Prop} (S : ZipSep2 z TI TO i1 i2 fp1 fp2) (D1 : Draws prog w A.in1 i1 fp1 n1 P1 St1) (D2 : Draws prog w A.in1 i2 fp2 n2 P2 St2)
    (hz : IsZipHeld s.heap z TI TO T f) (hT : s.heap.get? T = some oT) (hTI : IsTupOf2 s.heap TI (.ref i1) (.ref i2)) (st1 : St1 i s.heap) (st2 : St2 i s.heap) (hle1 : i ≤ n1) (hle2 : i ≤ n2) (hend : i = n1 ∨ i = n2)
    (hQ : ∀ h' tk, (∀ c o, c ≠ z → c ≠ i1 → c ≠ i2 → s.heap.get? c = some o → h'.get? c = some o) → Q none { s with heap := h', toks := tk }) : wpAny (model prog w) A (pyNext (.ref z)) Q E s := by
  have hT' : s.TypeIs (.ref z) "zip" := ⟨_, hz, rfl⟩
  unfold pyNext
  refine wpAny_bind (wpAny_attempt (wpAny_callSpecial?_slot (name := Str.ofString "__next__") hT' F.slot_zip_next
    (wpAny_call_entry F.slot_zip_next hT' F.entry_zip_next (held_end S D1 D2 hz hT hTI st1 st2 hle1 hle2 hend fun h' tk e hk he => ?_) (F.args_zip_next_1 _))))
  obtain ⟨o, ho, hc⟩ := he
  refine wpAny_bind (wpAny_isInstance (T := "StopIteration") (b := true) ⟨o, ho, hc⟩ isSubtype_stop ?_)
  exact wpAny_pure (hQ _ _ hk)

/-- how the zip stands, S the list that grows -/
structure ZSt (z TI TO i1 i2 S : Addr) (St1 St2 : Nat → Heap → Prop) (i : Nat) (h : Heap) : Prop where
  ti : IsTupOf2 h TI (.ref i1) (.ref i2)
  s1 : St1 i h
  s2 : St2 i h
  tl : TO < h.objs.size
  zz : (IsZip h z TI TO .none ∧ ∃ a1 a2, IsTupOf2 h TO a1 a2) ∨ ∃ T f oT, IsZipHeld h z TI TO T f ∧ h.get? T = some oT ∧ T ≠ z ∧ T ≠ i1 ∧ T ≠ i2 ∧ T ≠ S
/-- the items so far: new tuples, B the bound -/
def Its (P1 P2 : Nat → Value → Prop) (B : Nat) (ex : List Addr) (i : Nat) (acc : List Value) (h : Heap) : Prop :=
  ∃ Ts : List Addr, acc = Ts.map Value.ref ∧ Ts.length = i ∧ Ts.Pairwise (· < ·) ∧ (∀ T ∈ Ts, B ≤ T ∧ T < h.objs.size ∧ T ∉ ex) ∧ ∀ (j : Nat) T, Ts[j]? = some T → ∃ x1 x2, P1 j x1 ∧ P2 j x2 ∧ IsTupOf2 h T x1 x2
theorem Its.nil {B : Nat} {ex : List Addr} {h : Heap} : Its P1 P2 B ex 0 [] h := ⟨[], rfl, rfl, .nil, (fun T z => by cases z), (fun j T z => by simp at z)⟩
theorem Its.move {B : Nat} {ex : List Addr} {h h' : Heap} {acc : List Value} (x : Its P1 P2 B ex i acc h) (k : ∀ c o, c ∉ ex → h.get? c = some o → h'.get? c = some o) : Its P1 P2 B ex i acc h' := by
  obtain ⟨Ts, e, l, p, b, q⟩ := x
  refine ⟨Ts, e, l, p, fun T hT => ?_, fun j T hj => ?_⟩
  · obtain ⟨j, hj⟩ := List.mem_iff_getElem?.mp hT
    obtain ⟨x1, x2, _, _, hp⟩ := q j T hj
    exact ⟨(b T hT).1, Heap.lt_size (k _ _ (b T hT).2.2 hp), (b T hT).2.2⟩
  · obtain ⟨x1, x2, a1, a2, hp⟩ := q j T hj
    exact ⟨x1, x2, a1, a2, k _ _ (b T (List.mem_of_getElem? hj)).2.2 hp⟩
theorem Its.push {B : Nat} {ex : List Addr} {h h' : Heap} {acc : List Value} {x1 x2 : Value} (x : Its P1 P2 B ex i acc h) (k : ∀ c o, c ∉ ex → h.get? c = some o → h'.get? c = some o) (hb : B ≤ h.objs.size) (he : h.objs.size ∉ ex)
    (p1 : P1 i x1) (p2 : P2 i x2) (hT : IsTupOf2 h' h.objs.size x1 x2) : Its P1 P2 B ex (i + 1) (acc ++ [.ref h.objs.size]) h' := by
  have y := x.move k
  obtain ⟨Ts0, e0, l0, p0, b0, q0⟩ := x
  obtain ⟨Ts, e, l, p, b, q⟩ := y
  have eT : Ts = Ts0 := by
    have : Ts.map Value.ref = Ts0.map Value.ref := by rw [← e, ← e0]
    exact (List.map_inj_right fun a b z => by injection z).mp this
  subst eT
  refine ⟨Ts ++ [h.objs.size], by rw [List.map_append, ← e]; rfl, by rw [List.length_append, l]; rfl, ?_, fun T hT' => ?_, fun j T hj => ?_⟩
  · rw [List.pairwise_append]
    exact ⟨p, List.pairwise_singleton .., fun a ha c hc => by rw [List.mem_singleton.mp hc]; exact (b0 a ha).2.1⟩
  · rcases List.mem_append.mp hT' with z | z
    · exact b T z
    · rw [List.mem_singleton.mp z]; exact ⟨hb, Heap.lt_size hT, he⟩
  · by_cases hl : j < Ts.length
    · rw [List.getElem?_append_left hl] at hj
      exact q j T hj
    · rw [List.getElem?_append_right (by omega)] at hj
      have hj0 : j - Ts.length = 0 := by
        have := (List.getElem?_eq_some_iff.mp hj).1
        simp at this; omega
      rw [hj0] at hj
      simp at hj
      have hji : j = i := by omega
      subst hj hji
      exact ⟨x1, x2, p1, p2, hT⟩
theorem ext_loop {R : Result → Shared → Prop} {B : Nat} (hn : min n1 n2 ≤ sizeLine) (D : ZipSep2 z TI TO i1 i2 fp1 fp2) (D1 : Draws prog w A.in1.in1 i1 fp1 n1 P1 St1) (D2 : Draws prog w A.in1.in1 i2 fp2 n2 P2 St2)
    (hSz : S ≠ z) (hSTI : S ≠ TI) (hSTO : S ≠ TO) (hS1 : S ∉ fp1) (hS2 : S ∉ fp2) (hS1' : S ≠ i1) (hS2' : S ≠ i2) (res : Value) :
    ∀ (k i : Nat) (s : Shared) (acc : Array Value) (c : Nat), min n1 n2 - i = k → i ≤ min n1 n2 → ZSt z TI TO i1 i2 S St1 St2 i s.heap → B ≤ s.heap.objs.size → s.heap.get? S = some { cls := .type "list", dict := none, data := .seq acc c, slots := #[] } → Its P1 P2 B [S, z, TO, i1, i2] i acc.toList s.heap →
    (∀ h' tk acc' c', (∀ b o, b ∉ [S, z, TO, i1, i2] → s.heap.get? b = some o → h'.get? b = some o) → h'.get? S = some { cls := .type "list", dict := none, data := .seq acc' c', slots := #[] } → Its P1 P2 B [S, z, TO, i1, i2] (min n1 n2) acc'.toList h' → R (.ok (.ret res)) { s with heap := h', toks := tk }) →
    codeAny (model prog w) A (.builtin "list.extend.loop" ⟨[.ref S, .ref z, res], []⟩) R s := by
  intro k
  induction k with
  | zero =>
    intro i s acc c hk hi hst hB hS hacc hR
    have hin : i = min n1 n2 := by omega
    subst hin
    refine codeAny_builtin F.entry_extend_loop ?_
    rw [Around.under_plainId F.plain_extend_loop _]
    show wpAny _ A.in1 (pyNext (.ref z) >>= _) _ _ s
    refine wpAny_bind ?_
    have fin : ∀ h' tk, (∀ c o, c ≠ z → c ≠ TO → c ≠ i1 → c ≠ i2 → s.heap.get? c = some o → h'.get? c = some o) → R (.ok (.ret res)) { s with heap := h', toks := tk } := fun h' tk hk' =>
      hR h' tk acc c (fun b o hb e => hk' b o (fun x => hb (by simp [x])) (fun x => hb (by simp [x])) (fun x => hb (by simp [x])) (fun x => hb (by simp [x])) e) (hk' _ _ hSz hSTO hS1' hS2' hS)
        (hacc.move fun b o hb e => hk' b o (fun x => hb (by simp [x])) (fun x => hb (by simp [x])) (fun x => hb (by simp [x])) (fun x => hb (by simp [x])) e)
    rcases hst.zz with ⟨hz, a1, a2, hTO⟩ | ⟨T, f, oT, hz, hT, r1, r2, r3, r4⟩
    · exact wpAny_pyNext_zipD2_end D D1 D2 hz hst.ti hTO hst.s1 hst.s2 (by omega) (by omega) (by omega) fun h' tk hk' => wpAny_pure (fin h' tk hk')
    · exact pyNext_held_end D D1 D2 hz hT hst.ti hst.s1 hst.s2 (by omega) (by omega) (by omega) fun h' tk hk' => wpAny_pure (fin h' tk fun c o c1 _ c3 c4 e => hk' c o c1 c3 c4 e)
  | succ k ih =>
    intro i s acc c hk hi hst hB hS hacc hR
    have hlt : i < min n1 n2 := by omega
    have hlt1 : i < n1 := by omega
    have hlt2 : i < n2 := by omega
    refine codeAny_builtin F.entry_extend_loop ?_
    rw [Around.under_plainId F.plain_extend_loop _]
    show wpAny _ A.in1 (pyNext (.ref z) >>= _) _ _ s
    refine wpAny_bind ?_
    have lt : ∀ {c o}, s.heap.get? c = some o → s.heap.objs.size ≠ c := fun e => Nat.ne_of_gt (Heap.lt_size e)
    have l1 : s.heap.objs.size ≠ i1 := by obtain ⟨_, e⟩ := D1.live _ _ hst.s1; exact lt e
    have l2 : s.heap.objs.size ≠ i2 := by obtain ⟨_, e⟩ := D2.live _ _ hst.s2; exact lt e
    have lS : s.heap.objs.size ≠ S := lt hS
    have lz : s.heap.objs.size ≠ z := by
      rcases hst.zz with ⟨hz, _⟩ | ⟨T, f, oT, hz, _⟩
      · exact lt hz
      · exact lt hz
    -- what comes behind the next tuple
    have go : s.heap.objs.size ≠ TO → ∀ x1 x2 h' tk, P1 i x1 → P2 i x2 → ZSt z TI TO i1 i2 S St1 St2 (i + 1) h' → IsTupOf2 h' s.heap.objs.size x1 x2 → h'.objs.size = s.heap.objs.size + 1 →
        (∀ c o, c ≠ z → c ≠ TO → c ≠ i1 → c ≠ i2 → s.heap.get? c = some o → h'.get? c = some o) →
        wpAny (model prog w) A.in1 (updateSeq S (·.push (.ref s.heap.objs.size)) >>= fun _ => again (.builtin "list.extend.loop" ⟨[.ref S, .ref z, res], []⟩))
          (fun fin s' => match fin with | .done f => R (.ok f) s' | .again c' => c'.quiet = true ∧ codeAny (model prog w) A c' R s') (fun e s' => R (.error e) s') { s with heap := h', toks := tk } := by
      intro lTO x1 x2 h' tk p1 p2 st' hT hsz hk'
      have hS' := hk' _ _ hSz hSTO hS1' hS2' hS
      have al : acc.size = i := by obtain ⟨Ts, e, l, _⟩ := hacc; rw [← Array.length_toList, e, List.length_map, l]
      have kk : ∀ b o, b ∉ [S, z, TO, i1, i2] → s.heap.get? b = some o → (h'.update S (Obj.mapSeq (·.push (.ref s.heap.objs.size)))).get? b = some o := fun b o hb e =>
        (Heap.get?_update_other _ _ (fun h : S = b => hb (by simp [h]))).trans (hk' b o (fun x => hb (by simp [x])) (fun x => hb (by simp [x])) (fun x => hb (by simp [x])) (fun x => hb (by simp [x])) e)
      have ks : ∀ b o, b ≠ S → h'.get? b = some o → (h'.update S (Obj.mapSeq (·.push (.ref s.heap.objs.size)))).get? b = some o := fun b o hb e => (Heap.get?_update_other _ _ (fun h : S = b => hb h.symm)).trans e
      have sz : (h'.update S (Obj.mapSeq (·.push (.ref s.heap.objs.size)))).objs.size = s.heap.objs.size + 1 := by rw [← hsz]; exact (Heap.SameBut.update ..).1
      refine wpAny_bind ?_
      refine wpAny_updateSeq hS' rfl (wpAny_pure ⟨plainId_quiet F.plain_extend_loop _, ih (i + 1) _ (acc.push (.ref s.heap.objs.size)) _ (by omega) hlt ?_ (by show B ≤ _; rw [sz]; omega) (Heap.get?_update_self _ hS' rfl) ?_ fun h2 tk2 acc' c' kp hS2 hacc' => ?_⟩) (by omega) (by rw [Array.size_push]; omega)
      · obtain ⟨a, b, c, tl, d⟩ := st'
        refine ⟨ks _ _ (Ne.symm hSTI) a, D1.frame _ _ _ b fun b hb o e => ks b o (fun x => hS1 (x ▸ hb)) e, D2.frame _ _ _ c fun b hb o e => ks b o (fun x => hS2 (x ▸ hb)) e, by rw [sz, ← hsz]; exact tl, ?_⟩
        rcases d with ⟨hz, a1, a2, hTO⟩ | ⟨T, f, oT, hz, hT, r1, r2, r3, r4⟩
        · exact .inl ⟨ks _ _ (Ne.symm hSz) hz, a1, a2, ks _ _ (Ne.symm hSTO) hTO⟩
        · exact .inr ⟨T, f, oT, ks _ _ (Ne.symm hSz) hz, ks _ _ r4 hT, r1, r2, r3, r4⟩
      · rw [Array.toList_push]
        exact hacc.push kk hB (by simp only [List.mem_cons, List.not_mem_nil, or_false, not_or]; exact ⟨lS, lz, lTO, l1, l2⟩) p1 p2 (ks _ _ lS hT)
      · exact hR h2 tk2 acc' c' (fun b o hb e => kp b o hb (kk b o hb e)) hS2 hacc'
    rcases hst.zz with ⟨hz, a1, a2, hTO⟩ | ⟨T, f, oT, hz, hT, r1, r2, r3, r4⟩
    · refine wpAny_pyNext_zipD2_item D D1 D2 hz hst.ti hTO hst.s1 hst.s2 hlt1 hlt2 fun x1 x2 h' tk y1 y2 b1 b2 d1 d2 b5 b6 hk' => ?_
      exact go (lt hTO) x1 x2 h' tk y1 y2 ⟨hk' _ _ D.TIz D.TITO D.TIi1 D.TIi2 hst.ti, d1, d2, by rw [b6]; exact Nat.lt_succ_of_lt hst.tl, .inr ⟨s.heap.objs.size, false, _, b1, b5, lz, l1, l2, lS⟩⟩ b5 b6 hk'
    · refine pyNext_held_item D D1 D2 hz hT hst.ti hst.s1 hst.s2 hlt1 hlt2 fun x1 x2 h' tk y1 y2 b1 d1 d2 b5 b6 hk' => ?_
      exact go (Nat.ne_of_gt hst.tl) x1 x2 h' tk y1 y2 ⟨hk' _ _ D.TIz D.TIi1 D.TIi2 hst.ti, d1, d2, by rw [b6]; exact Nat.lt_succ_of_lt hst.tl, .inr ⟨T, true, oT, b1, hk' _ _ r1 r2 r3 hT, r1, r2, r3, r4⟩⟩ b5 b6 fun c o c1 _ c3 c4 e => hk' c o c1 c3 c4 e
theorem nolen_zip : typeLookup (.type "zip") "__len__" = pure none := by rw [typeLookup_type, builtinLookup_eq_fast]; kernel_rfl
theorem nohint_zip : typeLookup (.type "zip") "__length_hint__" = pure none := by rw [typeLookup_type, builtinLookup_eq_fast]; kernel_rfl
theorem zip_extend {R : Result → Shared → Prop} {B : Nat} {a1 a2 : Value} (hn : min n1 n2 ≤ sizeLine) (D : ZipSep2 z TI TO i1 i2 fp1 fp2) (D1 : Draws prog w A.in1.in1 i1 fp1 n1 P1 St1) (D2 : Draws prog w A.in1.in1 i2 fp2 n2 P2 St2)
    (hSz : S ≠ z) (hSTI : S ≠ TI) (hSTO : S ≠ TO) (hS1 : S ∉ fp1) (hS2 : S ∉ fp2) (hS1' : S ≠ i1) (hS2' : S ≠ i2) (res : Value) (c₀ : Nat) (hS : s.heap.get? S = some { cls := .type "list", data := .seq #[] c₀ })
    (hB : B ≤ s.heap.objs.size) (hz : IsZip s.heap z TI TO .none) (hTI : IsTupOf2 s.heap TI (.ref i1) (.ref i2)) (hTO : IsTupOf2 s.heap TO a1 a2) (st1 : St1 0 s.heap) (st2 : St2 0 s.heap)
    (hR : ∀ h' tk acc' c', (∀ b o, b ∉ [S, z, TO, i1, i2] → s.heap.get? b = some o → h'.get? b = some o) → h'.get? S = some { cls := .type "list", dict := none, data := .seq acc' c', slots := #[] } → Its P1 P2 B [S, z, TO, i1, i2] (min n1 n2) acc'.toList h' → R (.ok (.ret res)) { s with heap := h', toks := tk }) :
    wpAny (model prog w) A.in1 (Builtin.List.listExtendWith (.ref S) (.ref z) res)
      (fun fin s' => match fin with | .done f => R (.ok f) s' | .again c' => c'.quiet = true ∧ codeAny (model prog w) A c' R s') (fun e s' => R (.error e) s') s := by
  unfold Builtin.List.listExtendWith
  have hTy : s.TypeIs (.ref z) "zip" := ⟨_, hz, rfl⟩
  refine wpAny_bind (wpAny_typeOf (T := "zip") hTy ?_)
  have h1 : Builtin.List.listSameRef (.ref S) (.ref z) = false := by simp [Builtin.List.listSameRef, hSz]
  have h2 : (Value.type "zip" == Value.type "list") = false := by decide
  have h3 : (Value.type "zip" == Value.type "tuple") = false := by decide
  simp only [h1, h2, h3, Bool.or_false, Bool.false_eq_true, if_false]
  refine wpAny_bind (wpAny_pyIter_zip hz ?_)
  refine wpAny_bind (wpAny_holding ?_)
  unfold Builtin.List.listLengthHint
  refine wpAny_bind (wpAny_specialOf hTy nolen_zip ?_)
  show wpAny _ A.in1 (specialOf (Value.ref z) (Str.ofString "__length_hint__") >>= _) _ _ s
  refine wpAny_bind (wpAny_specialOf hTy nohint_zip ?_)
  refine wpAny_pure ?_
  show wpAny _ A.in1 (rule "list.extend.makes-room" >>= fun _ => Builtin.List.listTouch (.ref S) >>= fun _ =>
    again (.builtin "list.extend.loop" ⟨[.ref S, .ref z, res], []⟩)) _ _ _
  refine wpAny_bind (wpAny_rule ?_)
  refine wpAny_bind ?_
  show wpAny _ _ (updateSeq S (·.push .none) >>= fun _ => updateSeq S (·.pop)) _ _ _
  refine wpAny_bind (wpAny_updateSeq hS rfl ?_)
  have hS₂ := Heap.get?_update_self (Obj.mapSeq (·.push Value.none)) hS rfl
  refine wpAny_updateSeq (hz := by seq_fits) hS₂ rfl ?_
  have hS₃ := Heap.get?_update_self (Obj.mapSeq (·.pop)) hS₂ rfl
  have oth : ∀ b o, b ≠ S → s.heap.get? b = some o → ((s.heap.update S (Obj.mapSeq (·.push Value.none))).update S (Obj.mapSeq (·.pop))).get? b = some o := fun b o hb e =>
    (Heap.get?_update_other _ _ (Ne.symm hb)).trans ((Heap.get?_update_other _ _ (Ne.symm hb)).trans e)
  have sz : ((s.heap.update S (Obj.mapSeq (·.push Value.none))).update S (Obj.mapSeq (·.pop))).objs.size = s.heap.objs.size := ((Heap.SameBut.update ..).1).trans ((Heap.SameBut.update ..).1)
  refine wpAny_pure ⟨plainId_quiet F.plain_extend_loop _, ext_loop hn D D1 D2 hSz hSTI hSTO hS1 hS2 hS1' hS2' res (min n1 n2) 0 _ #[] _ rfl (Nat.zero_le _) ?_ (by rw [sz]; exact hB) hS₃ Its.nil fun h' tk acc' c' hk hS' hacc => ?_⟩
  · refine ⟨oth _ _ (Ne.symm hSTI) hTI, D1.frame _ _ _ st1 fun b hb o e => oth b o (fun x => hS1 (x ▸ hb)) e, D2.frame _ _ _ st2 fun b hb o e => oth b o (fun x => hS2 (x ▸ hb)) e, by rw [sz]; exact Heap.lt_size hTO, .inl ⟨oth _ _ (Ne.symm hSz) hz, a1, a2, oth _ _ (Ne.symm hSTO) hTO⟩⟩
  · exact hR h' tk acc' c' (fun b o hb e => hk b o hb (oth b o (fun x => hb (by simp [x])) e)) hS' hacc
theorem zip_init {R : Result → Shared → Prop} {B : Nat} {a1 a2 : Value} (hn : min n1 n2 ≤ sizeLine) (D : ZipSep2 z TI TO i1 i2 fp1 fp2) (D1 : Draws prog w A.in1.in1 i1 fp1 n1 P1 St1) (D2 : Draws prog w A.in1.in1 i2 fp2 n2 P2 St2)
    (hSz : S ≠ z) (hSTI : S ≠ TI) (hSTO : S ≠ TO) (hS1 : S ∉ fp1) (hS2 : S ∉ fp2) (hS1' : S ≠ i1) (hS2' : S ≠ i2) (hS : s.heap.get? S = some { cls := .type "list", data := .seq #[] })
    (hB : B ≤ s.heap.objs.size) (hz : IsZip s.heap z TI TO .none) (hTI : IsTupOf2 s.heap TI (.ref i1) (.ref i2)) (hTO : IsTupOf2 s.heap TO a1 a2) (st1 : St1 0 s.heap) (st2 : St2 0 s.heap)
    (hR : ∀ h' tk acc' c', (∀ b o, b ∉ [S, z, TO, i1, i2] → s.heap.get? b = some o → h'.get? b = some o) → h'.get? S = some { cls := .type "list", dict := none, data := .seq acc' c', slots := #[] } → Its P1 P2 B [S, z, TO, i1, i2] (min n1 n2) acc'.toList h' → R (.ok (.ret .none)) { s with heap := h', toks := tk }) :
    wpAny (model prog w) A.in1 (Builtin.«list.__init__» ⟨[.ref S, .ref z], []⟩)
      (fun fin s' => match fin with | .done f => R (.ok f) s' | .again c' => c'.quiet = true ∧ codeAny (model prog w) A c' R s') (fun e s' => R (.error e) s') s := by
  show wpAny _ _ (do let old ← Builtin.List.listItems (.ref S); Builtin.List.listUpdate (.ref S) (fun _ => #[]); letGo old.toList.reverse; Builtin.List.listExtendWith (.ref S) (.ref z) .none) _ _ s
  refine wpAny_bind ?_
  unfold Builtin.List.listItems
  refine wpAny_bind (wpAny_seqItems hS rfl (wpAny_pure ?_))
  show wpAny _ _ (updateSeq S (fun _ => #[]) >>= fun _ => letGo (#[] : Array Value).toList.reverse >>= fun _ => Builtin.List.listExtendWith (.ref S) (.ref z) .none) _ _ s
  refine wpAny_bind (wpAny_updateSeq hS rfl ?_)
  have hS₂ := Heap.get?_update_self (Obj.mapSeq (fun _ => (#[] : Array Value))) hS rfl
  have oth : ∀ b o, b ≠ S → s.heap.get? b = some o → (s.heap.update S (Obj.mapSeq (fun _ => (#[] : Array Value)))).get? b = some o :=
    fun b o hb e => (Heap.get?_update_other _ _ (Ne.symm hb)).trans e
  have sz : (s.heap.update S (Obj.mapSeq (fun _ => (#[] : Array Value)))).objs.size = s.heap.objs.size := (Heap.SameBut.update ..).1
  refine wpAny_bind (wpAny_letGo ?_)
  refine zip_extend hn D D1 D2 hSz hSTI hSTO hS1 hS2 hS1' hS2' .none _ hS₂ (by rw [sz]; exact hB) (oth _ _ (Ne.symm hSz) hz) (oth _ _ (Ne.symm hSTI) hTI) (oth _ _ (Ne.symm hSTO) hTO)
    (D1.frame _ _ _ st1 fun b hb o e => oth b o (fun x => hS1 (x ▸ hb)) e) (D2.frame _ _ _ st2 fun b hb o e => oth b o (fun x => hS2 (x ▸ hb)) e) fun h' tk acc' c' hk hS' hacc => ?_
  exact hR h' tk acc' c' (fun b o hb e => hk b o hb (oth b o (fun x => hb (by simp [x])) e)) hS' hacc
/-- list(z), z a zip that gave nothing out yet -/
theorem call_list_zip {a1 a2 : Value} {Q : Value → Shared → Prop} (hn : min n1 n2 ≤ sizeLine) (D : ZipSep2 z TI TO i1 i2 fp1 fp2) (D1 : Draws prog w A.in1.in1.in1 i1 fp1 n1 P1 St1) (D2 : Draws prog w A.in1.in1.in1 i2 fp2 n2 P2 St2)
    (hf1 : ∀ b ∈ fp1, b < s.heap.objs.size) (hf2 : ∀ b ∈ fp2, b < s.heap.objs.size)
    (hz : IsZip s.heap z TI TO .none) (hTI : IsTupOf2 s.heap TI (.ref i1) (.ref i2)) (hTO : IsTupOf2 s.heap TO a1 a2) (st1 : St1 0 s.heap) (st2 : St2 0 s.heap)
    (hQ : ∀ h' tk acc' c', (∀ b o, b ∉ [z, TO, i1, i2] → s.heap.get? b = some o → h'.get? b = some o) → h'.get? s.heap.objs.size = some { cls := .type "list", dict := none, data := .seq acc' c', slots := #[] } → Its P1 P2 s.heap.objs.size [s.heap.objs.size, z, TO, i1, i2] (min n1 n2) acc'.toList h' → Q (.ref s.heap.objs.size) { s with heap := h', toks := tk }) :
    wpAny (model prog w) A (call (.type "list") [.ref z]) Q E s := by
  refine callType_codes (Q₁ := fun obj s₁ => obj = .ref s.heap.objs.size ∧ s₁ = { s with heap := s.heap.push { cls := .type "list", data := .seq #[] } }) PySem.F.called_list (PySem.F.typeCall_list_1 _) PySem.F.entry_list_init
    (code_list_new _ ⟨rfl, rfl⟩) fun obj s₁ h₁ => ?_
  obtain ⟨rfl, rfl⟩ := h₁
  have hS : (s.heap.push { cls := .type "list", data := .seq #[] }).get? s.heap.objs.size = some { cls := .type "list", data := .seq #[] } := Heap.get?_push_size _ rfl
  have i1l := hf1 _ D.mem1
  have i2l := hf2 _ D.mem2
  have up : ∀ b o, s.heap.get? b = some o → (s.heap.push { cls := .type "list", data := .seq #[] }).get? b = some o := fun b o e => Heap.get?_push_of_some _ e
  have sz : (s.heap.push { cls := .type "list", data := .seq #[] }).objs.size = s.heap.objs.size + 1 := Heap.size_push ..
  refine ⟨⟨_, hS, rfl⟩, PySem.F.args_list_init_2 _ _, zip_init (A := A.in1) (B := s.heap.objs.size) hn D D1 D2 (Nat.ne_of_gt (Heap.lt_size hz)) (Nat.ne_of_gt (Heap.lt_size hTI)) (Nat.ne_of_gt (Heap.lt_size hTO)) (fun x => Nat.lt_irrefl _ (hf1 _ x)) (fun x => Nat.lt_irrefl _ (hf2 _ x)) (Nat.ne_of_gt i1l) (Nat.ne_of_gt i2l) hS
    (by show _ ≤ (s.heap.push { cls := .type "list", data := .seq #[] }).objs.size; rw [sz]; exact Nat.le_succ _) (up _ _ hz) (up _ _ hTI) (up _ _ hTO) (D1.frame _ _ _ st1 fun b _ o e => up b o e) (D2.frame _ _ _ st2 fun b _ o e => up b o e) fun h' tk acc' c' hk hS' hacc => ?_⟩
  exact ⟨rfl, hQ h' tk acc' c' (fun b o hb e => hk b o (fun x => (List.mem_cons.mp x).elim (fun x => absurd (Heap.lt_size e) (by rw [x]; exact Nat.lt_irrefl _)) hb) (up b o e)) hS' hacc⟩
end
end ZL
namespace G
open PySem PySem.Spec PyProof.Rows L2
variable [Tb]
/-- what list(zip(..)) leaves -/
structure ZipL (xs ys : List V) (l : Addr) (H1 H2 : Hp) : Prop where
  grw : Grw H1 H2
  new : H1 l = none
  it : ∃ ps : List V, H2 l = some (.lst ps) ∧ ps.length = min xs.length ys.length ∧ ∀ (j : Nat) (p : V), ps[j]? = some p → ∃ (T : Addr) (x y : V), p = V.ref T ∧ xs[j]? = some x ∧ ys[j]? = some y ∧ H2 T = some (.tup [x, y])
def rListZip (K : PySem.W.Frag) : List V → Hp → VK → Prop := fun vs H Q => ∃ (a b : Addr) (xs ys : List V), vs = [V.ref a, V.ref b] ∧ (SqL K H a xs ∨ SqT K H a xs) ∧ (SqL K H b ys ∨ SqT K H b ys) ∧ ∀ l H2, ZipL xs ys l H H2 → Q (V.ref l) H2
def tListZip (K : PySem.W.Frag) (ta : TA) : TE := fun σ H Q => ta σ H fun vs H1 => rListZip K vs H1 Q
theorem zsep (n a b : Nat) (ha : a < n) (hb : b < n) : ZipSep2 (n + 4) (n + 2) (n + 3) n (n + 1) [n, a] [n + 1, b] := by
  have h2 : n ≠ a := fun z => by rw [z] at ha; exact Nat.lt_irrefl _ ha
  have h3 : n ≠ b := fun z => by rw [z] at hb; exact Nat.lt_irrefl _ hb
  have g : ∀ k x : Nat, x < n → n + k ≠ x := fun k x h z => by omega
  constructor
  · exact Nat.ne_of_lt (by omega)
  · exact Nat.ne_of_lt (by omega)
  · exact Nat.ne_of_lt (by omega)
  · exact Nat.ne_of_gt (by omega)
  · exact List.mem_cons_self ..
  · exact fun z => (List.mem_cons.mp z).elim (fun z => by first | exact absurd z (Nat.ne_of_gt (show n < n + 4 by omega)) | exact absurd z (Nat.ne_of_gt (show n + 1 < n + 4 by omega))) fun z => g 4 a ha (List.mem_singleton.mp z)
  · exact fun z => (List.mem_cons.mp z).elim (fun z => by first | exact absurd z (Nat.ne_of_gt (show n < n + 3 by omega)) | exact absurd z (Nat.ne_of_gt (show n + 1 < n + 3 by omega)) | exact absurd z (Nat.ne_of_gt (show n + 1 < n + 4 by omega)) | exact absurd z (Nat.ne_of_lt (show n < n + 1 by omega)) | exact absurd z (Nat.ne_of_gt (show n < n + 1 by omega))) fun z => g 3 a ha (List.mem_singleton.mp z)
  · exact Nat.ne_of_gt (by omega)
  · exact List.mem_cons_self ..
  · exact fun z => (List.mem_cons.mp z).elim (fun z => by first | exact absurd z (Nat.ne_of_gt (show n < n + 4 by omega)) | exact absurd z (Nat.ne_of_gt (show n + 1 < n + 4 by omega))) fun z => g 4 b hb (List.mem_singleton.mp z)
  · exact fun z => (List.mem_cons.mp z).elim (fun z => by first | exact absurd z (Nat.ne_of_gt (show n < n + 3 by omega)) | exact absurd z (Nat.ne_of_gt (show n + 1 < n + 3 by omega)) | exact absurd z (Nat.ne_of_gt (show n + 1 < n + 4 by omega)) | exact absurd z (Nat.ne_of_lt (show n < n + 1 by omega)) | exact absurd z (Nat.ne_of_gt (show n < n + 1 by omega))) fun z => g 3 b hb (List.mem_singleton.mp z)
  · exact fun z => (List.mem_cons.mp z).elim (fun z => by first | exact absurd z (Nat.ne_of_gt (show n < n + 3 by omega)) | exact absurd z (Nat.ne_of_gt (show n + 1 < n + 3 by omega)) | exact absurd z (Nat.ne_of_gt (show n + 1 < n + 4 by omega)) | exact absurd z (Nat.ne_of_lt (show n < n + 1 by omega)) | exact absurd z (Nat.ne_of_gt (show n < n + 1 by omega))) fun z => h3 (List.mem_singleton.mp z)
  · exact fun z => (List.mem_cons.mp z).elim (fun z => by first | exact absurd z (Nat.ne_of_gt (show n < n + 3 by omega)) | exact absurd z (Nat.ne_of_gt (show n + 1 < n + 3 by omega)) | exact absurd z (Nat.ne_of_gt (show n + 1 < n + 4 by omega)) | exact absurd z (Nat.ne_of_lt (show n < n + 1 by omega)) | exact absurd z (Nat.ne_of_gt (show n < n + 1 by omega))) fun z => g 1 a ha (List.mem_singleton.mp z)
/-- a source of a zip -/
structure Src (h : Heap) (a : Addr) (its : List Value) : Prop where
  lt : a < h.objs.size
  go : ∃ (o : Obj) (HH : Heap → Prop), Begins (.ref a) o HH ∧ HH h ∧ ∀ (prog : Program) (w : World) (A : Around) (it : Addr), A.handled = none → a ≠ it → ∃ St, Draws prog w A it [it, a] its.length (fun i v => its[i]? = some v) St ∧ ∀ h', h'.get? it = some o → HH h' → St 0 h'
theorem src_list {h : Heap} {a : Addr} {its : List Value} (p : h.IsList a its.toArray) : Src h a its := by
  obtain ⟨o, ho, _⟩ := id p
  refine ⟨Heap.lt_size ho, _, _, begins_list a its.toArray, p, fun prog w A it hh hne => ⟨fun i h => h.IsListIter it a i ∧ h.IsList a its.toArray, ?_, fun h' e q => ⟨⟨_, e, rfl, rfl⟩, q⟩⟩⟩
  have D := Draws.list (prog := prog) (w := w) hh it a hne its.toArray
  simpa using D
theorem src_tuple {h : Heap} {a : Addr} {its : List Value} (p : h.IsTuple a its.toArray) : Src h a its := by
  obtain ⟨o, ho, _⟩ := id p
  refine ⟨Heap.lt_size ho, _, _, begins_tuple a its.toArray, p, fun prog w A it hh hne => ⟨fun i h => h.IsTupleIter it a i ∧ h.IsTuple a its.toArray, ?_, fun h' e q => ⟨⟨_, e, rfl, rfl⟩, q⟩⟩⟩
  have D := Draws.tuple (prog := prog) (w := w) hh it a hne its.toArray
  simpa using D
theorem src_of {X : Cx} {pins : List (Addr × Obj)} {σ : L2.St} {H : Hp} {s : Shared} {a : Addr} {xs : List V} (I : Inv X pins σ H s) (h : SqL X.K H a xs ∨ SqT X.K H a xs) : ∃ its, Vals xs its ∧ xs.length ≤ sizeLine ∧ Src s.heap a its := by
  rcases h with h | h
  · obtain ⟨its, r, p, z⟩ := I.list h
    exact ⟨its, r, z, src_list p.isList⟩
  · obtain ⟨its, r, p, z⟩ := I.tuple h
    exact ⟨its, r, z, src_tuple p⟩
theorem vals_back {xs : List V} {us : List Value} {j : Nat} {u : Value} (r : Vals xs us) (h : us[j]? = some u) : ∃ x, xs[j]? = some x ∧ RelV x u := by
  have hl : j < us.length := (List.getElem?_eq_some_iff.mp h).1
  have hl2 : j < xs.length := by rw [r.length]; exact hl
  obtain ⟨u', e, q⟩ := r.get (List.getElem?_eq_getElem hl2)
  rw [e] at h; cases h
  exact ⟨_, List.getElem?_eq_getElem hl2, q⟩
/-- new tuples that lie in the heap are tracked, one by one -/
theorem track_tups {X : Cx} {pins : List (Addr × Obj)} {σ : L2.St} {H1 : Hp} {s1 : Shared} {h2 : Heap} {tk : Nat} {xs ys : List V} {its1 its2 : List Value} (I1 : Inv X pins σ H1 s1) (hk : ∀ b o, s1.heap.get? b = some o → h2.get? b = some o)
    (r1 : Vals xs its1) (r2 : Vals ys its2) (Ts : List Addr) (hp : Ts.Pairwise (· < ·)) (hB : ∀ T ∈ Ts, s1.heap.objs.size ≤ T)
    (hT : ∀ (j : Nat) T, Ts[j]? = some T → ∃ x1 x2, its1[j]? = some x1 ∧ its2[j]? = some x2 ∧ IsTupOf2 h2 T x1 x2) : ∀ k, k ≤ Ts.length →
    ∃ (Hk : Hp) (G : Heap), Inv X pins σ Hk { s1 with heap := G, toks := tk } ∧ (∀ b, (b < s1.heap.objs.size ∨ b ∈ Ts.take k) → G.get? b = h2.get? b) ∧ (∀ b, ¬ (b < s1.heap.objs.size ∨ b ∈ Ts.take k) → G.get? b = none) ∧ Grw H1 Hk ∧
      (∀ b, b ∉ Ts.take k → Hk b = H1 b) ∧ ∀ (j : Nat) T, j < k → Ts[j]? = some T → ∃ x y, xs[j]? = some x ∧ ys[j]? = some y ∧ Hk T = some (.tup [x, y]) := by
  intro k
  induction k with
  | zero =>
    intro _
    obtain ⟨G, g1, g2⟩ := restrict h2 fun b => decide (b < s1.heap.objs.size)
    refine ⟨H1, G, I1.kept fun b o e => ?_, fun b hb => ?_, fun b hb => ?_, Grw.refl, fun _ _ => rfl, fun j T hj _ => absurd hj (Nat.not_lt_zero _)⟩
    · rw [g1 b (decide_eq_true (Heap.lt_size e))]; exact hk b o e
    · rcases hb with hb | hb
      · exact g1 b (decide_eq_true hb)
      · simp at hb
    · exact g2 b (decide_eq_false fun z => hb (.inl z))
  | succ k ih =>
    intro hk1
    obtain ⟨Hk, G, I, g1, g2, gr, ot, at_⟩ := ih (by omega)
    have hkl : k < Ts.length := hk1
    have eT : Ts[k]? = some Ts[k] := List.getElem?_eq_getElem hkl
    obtain ⟨T, hTe⟩ : ∃ T, T = Ts[k] := ⟨_, rfl⟩
    rw [← hTe] at eT
    obtain ⟨u1, u2, e1, e2, hT2⟩ := hT k T eT
    obtain ⟨x, ex, rx⟩ := vals_back r1 e1
    obtain ⟨y, ey, ry⟩ := vals_back r2 e2
    have hTB := hB T (List.mem_of_getElem? eT)
    have hnot : T ∉ Ts.take k := fun z => by
      obtain ⟨i, hi⟩ := List.mem_iff_getElem?.mp z
      have hik : i < k := by
        have := (List.getElem?_eq_some_iff.mp hi).1
        rw [List.length_take] at this; omega
      rw [List.getElem?_take_of_lt hik] at hi
      obtain ⟨hi1, hi2⟩ := List.getElem?_eq_some_iff.mp hi
      have lt := List.pairwise_iff_getElem.mp hp i k hi1 hkl hik
      rw [hi2, ← hTe] at lt
      exact Nat.lt_irrefl _ lt
    have hmem : ∀ b, b ∈ Ts.take (k + 1) ↔ b ∈ Ts.take k ∨ b = T := fun b => by
      rw [List.take_add_one, eT]
      simp
    obtain ⟨G', g1', g2'⟩ := restrict h2 fun b => decide (b < s1.heap.objs.size ∨ b ∈ Ts.take (k + 1))
    have kp : ∀ b o, G.get? b = some o → G'.get? b = some o := fun b o e => by
      have hb : b < s1.heap.objs.size ∨ b ∈ Ts.take k := Classical.byContradiction fun z => by rw [g2 b z] at e; cases e
      rw [g1' b (decide_eq_true (hb.imp id fun z => (hmem b).mpr (.inl z))), ← g1 b hb]
      exact e
    have hTn : ¬ (T < s1.heap.objs.size ∨ T ∈ Ts.take k) := fun z => z.elim (fun q => Nat.lt_irrefl _ (Nat.lt_of_lt_of_le q hTB)) hnot
    have hH : Hk T = none := by rw [ot T hnot]; exact I1.hok.fresh hTB
    have hG : G'.get? T = some { cls := .type "tuple", data := .seq #[u1, u2] } := by rw [g1' T (decide_eq_true (.inr ((hmem T).mpr (.inr rfl))))]; exact hT2
    have I2 := I.laidN (h' := G') (a := T) (o := .tup [x, y]) (t' := tk) kp (g2 T hTn) hH ⟨by show 2 ≤ sizeLine; decide, [u1, u2], .cons rx (.cons ry .nil), ⟨_, hG, rfl, _, rfl⟩⟩
    refine ⟨upd Hk T (.tup [x, y]), G', I2, fun b hb => g1' b (decide_eq_true hb), fun b hb => g2' b (decide_eq_false hb), gr.trans (Grw.new hH), fun b hb => ?_, fun j T' hj hj' => ?_⟩
    · rw [hmem] at hb
      rw [upd_ne fun z => hb (.inr z)]
      exact ot b fun z => hb (.inl z)
    · by_cases hjk : j = k
      · subst hjk
        rw [eT] at hj'; cases hj'
        exact ⟨x, y, ex, ey, upd_same⟩
      · obtain ⟨x', y', a1, a2, a3⟩ := at_ j T' (by omega) hj'
        exact ⟨x', y', a1, a2, Grw.new hH _ _ a3⟩
section
variable {X : Cx} {e e2 : Expr} {ta : TA} {p p2 pos2 pos : Pos}
theorem pe_listZip (hc : X.calm = true) (ha : PA X [e, e2] ta) (hg : Gl X "list") (hm : X.mg "list" = none) (hg2 : Gl X "zip") (hm2 : X.mg "zip" = none) (hv : bootBuiltins "list" = some (.type "list") := by exact boot_list)
    (hs2 : starEach [e, e2] X.env = (false, eval e X.env) :: starEach [e2] X.env := by rfl) (hpl2 : (backTo pos2 (starEach [e2] X.env)).any (·.1) = false := by rfl)
    (hs : starEach [.Call (.Name "zip" p2) [e, e2] [] pos2] X.env = (false, eval (.Call (.Name "zip" p2) [e, e2] [] pos2) X.env) :: starEach [] X.env := by rfl) :
    PE X (.Call (.Name "list" p) [.Call (.Name "zip" p2) [e, e2] [] pos2] [] pos) (tListZip X.K ta) := by
  refine ⟨fun pins s σ H Q I hq => ?_⟩
  refine wpAny_Call_Name_kw (ld_blt I hg hm hv ?_)
  refine PyProof.Rows.callWith_type1 ?_ hs rfl
  rw [hs]
  show wpAny _ _ (spliced ((false, eval (.Call (.Name "zip" p2) [e, e2] [] pos2) X.env) :: backTo pos (starEach [] X.env))) _ _ s
  refine Calls.spliced_cons ?_
  refine Call_ (ld_blt I hg2 hm2 PyProof.Rows.boot_zip (PyProof.Rows.callWith_type1 (thn (ha.run pos2 pins s σ H _ I hq) fun us s1 ⟨vs, H1, I1, r1, q1⟩ => ?_) hs2 hpl2))
  obtain ⟨a, b, xs, ys, ex, h1, h2, q⟩ := q1
  subst ex
  cases r1 with
  | cons r rr =>
    cases rr with
    | cons r' rr =>
      cases rr
      cases r
      cases r'
      obtain ⟨its1, v1, z1, S1⟩ := src_of I1 h1
      obtain ⟨its2, v2, z2, S2⟩ := src_of I1 h2
      obtain ⟨o1, HH1, B1, hh1, D1⟩ := S1.go
      obtain ⟨o2, HH2, B2, hh2, D2⟩ := S2.go
      have hd := I1.ok.hd hc
      refine zip_begins2 B1 B2 hh1 hh2 fun h' hz hTI hTO e1 e2 hsz hk => ?_
      refine Calls.spliced_nil ?_
      have n := s1.heap.objs.size
      obtain ⟨St1, D1, k1⟩ := D1 X.prog X.w X.A.in1.in1.in1 s1.heap.objs.size hd (Nat.ne_of_lt S1.lt)
      obtain ⟨St2, D2, k2⟩ := D2 X.prog X.w X.A.in1.in1.in1 (s1.heap.objs.size + 1) hd (Nat.ne_of_lt (Nat.lt_succ_of_lt S2.lt))
      have s10 := k1 h' e1 (B1.keeps _ _ hh1 hk)
      have s20 := k2 h' e2 (B2.keeps _ _ hh2 hk)
      have hlen : min its1.length its2.length ≤ sizeLine := Nat.le_trans (Nat.min_le_left ..) (by rw [← v1.length]; exact z1)
      refine ZL.call_list_zip (s := { s1 with heap := h' }) hlen (zsep _ _ _ S1.lt S2.lt) D1 D2 ?_ ?_ hz hTI hTO s10 s20 fun h3 tk acc' c' hk3 hL hits => ?_
      · intro b hb
        show b < h'.objs.size
        rw [hsz]
        rcases List.mem_cons.mp hb with z | z
        · rw [z]; exact Nat.lt_add_of_pos_right (by decide)
        · rw [List.mem_singleton.mp z]; exact Nat.lt_of_lt_of_le S1.lt (Nat.le_add_right _ _)
      · intro b hb
        show b < h'.objs.size
        rw [hsz]
        rcases List.mem_cons.mp hb with z | z
        · rw [z]; exact Nat.add_lt_add_left (by decide) _
        · rw [List.mem_singleton.mp z]; exact Nat.lt_of_lt_of_le S2.lt (Nat.le_add_right _ _)
      · obtain ⟨Ts, eT, lT, pT, bT, aT⟩ := hits
        have kk : ∀ b o, s1.heap.get? b = some o → h3.get? b = some o := fun b o e => hk3 b o (fun hb => by
          have hlt := Heap.lt_size e
          have e' : b = s1.heap.objs.size + 4 ∨ b = s1.heap.objs.size + 3 ∨ b = s1.heap.objs.size ∨ b = s1.heap.objs.size + 1 := by simpa using hb
          rcases e' with z | z | z | z <;> rw [z] at hlt
          · exact absurd hlt (Nat.not_lt.mpr (Nat.le_add_right _ _))
          · exact absurd hlt (Nat.not_lt.mpr (Nat.le_add_right _ _))
          · exact Nat.lt_irrefl _ hlt
          · exact absurd hlt (Nat.not_lt.mpr (Nat.le_add_right _ _))) (hk b o e)
        have hge : s1.heap.objs.size ≤ h'.objs.size := by rw [hsz]; exact Nat.le_add_right _ _
        obtain ⟨Hm, G, I2, g1, g2, gr, ot, at_⟩ := track_tups (tk := tk) I1 kk v1 v2 Ts pT (fun T hT => Nat.le_trans hge (bT T hT).1) aT Ts.length (Nat.le_refl _)
        rw [List.take_length] at g1 g2 ot
        have hLn : h'.objs.size ∉ Ts := fun z => (bT _ z).2.2 (by simp)
        have hH : Hm h'.objs.size = none := by rw [ot _ hLn]; exact I1.hok.fresh hge
        have I3 := I2.laidN (h' := h3) (a := h'.objs.size) (o := .lst (Ts.map V.ref)) (t' := tk) (fun b o e => by
            have hb : b < s1.heap.objs.size ∨ b ∈ Ts := Classical.byContradiction fun z => by rw [show G.get? b = none from g2 b z] at e; cases e
            rw [← g1 b hb]; exact e) (g2 _ fun z => z.elim (fun q => Nat.lt_irrefl _ (Nat.lt_of_lt_of_le q hge)) hLn) hH
          ⟨by rw [List.length_map, lT]; exact hlen, acc'.toList, c', by rw [eT]; exact vals_refs Ts, by rw [Array.toArray_toList]; exact hL⟩
        refine ⟨.ref h'.objs.size, _, I3, rfl, q _ _ ⟨gr.trans (Grw.new hH), I1.hok.fresh hge, Ts.map V.ref, upd_same, by rw [List.length_map, lT, v1.length, v2.length], fun j p hj => ?_⟩⟩
        rw [List.getElem?_map] at hj
        obtain ⟨T, hj, ep⟩ := Option.map_eq_some_iff.mp hj
        obtain ⟨x, y, a1, a2, a3⟩ := at_ j T (List.getElem?_eq_some_iff.mp hj).1 hj
        exact ⟨T, x, y, ep.symm, a1, a2, Grw.new hH _ _ a3⟩
end
def seqD : D → Option (List D)
  | .lst l => some l
  | .tup l => some l
  | _ => none
def pairsD : List D → List D → List D
  | x :: xs, y :: ys => .tup [x, y] :: pairsD xs ys
  | _, _ => []
def gLstZip : GL := fun _ ds => match ds with
  | [x, y] => (seqD x).bind fun xs => (seqD y).map fun ys => .lst (pairsD xs ys)
  | _ => none
section
variable {K : PySem.W.Frag} {mg : Str → Option Value} {m : WM} {H H' : Hp}
theorem seq_at {d : D} {l : List D} {v : V} (h : seqD d = some l) (r : RV K mg m H d v) : ∃ (a : Addr) (vs : List V), v = V.ref a ∧ (SqL K H a vs ∨ SqT K H a vs) ∧ l.length ≤ sizeLine ∧ RVs K mg m H l vs := by
  cases d with
  | lst l' =>
    cases h
    obtain ⟨a, vs, e, h1, _, _, hl, rr⟩ := r.lst'
    exact ⟨a, vs, e, .inl (SqL.of h1), hl, rr⟩
  | tup l' =>
    cases h
    obtain ⟨a, vs, e, h1, hl, rr⟩ := r.tup'
    exact ⟨a, vs, e, .inr (SqT.of h1), hl, rr⟩
  | _ => cases h
theorem pairs_at : ∀ {xs ys : List D} {vs ws ps : List V}, RVs K mg m H xs vs → RVs K mg m H ys ws → Grw H H' → ps.length = min vs.length ws.length →
    (∀ (j : Nat) (p : V), ps[j]? = some p → ∃ (T : Addr) (x y : V), p = V.ref T ∧ vs[j]? = some x ∧ ws[j]? = some y ∧ H' T = some (.tup [x, y])) → RVs K mg m H' (pairsD xs ys) ps
  | [], _, _, _, ps, r1, _, _, hl, _ => by
    rw [RVs.nil] at r1
    subst r1
    have : ps = [] := List.length_eq_zero_iff.mp (by rw [hl]; simp)
    subst this
    exact RVs.nil.mpr rfl
  | _ :: _, [], _, _, ps, _, r2, _, hl, _ => by
    rw [RVs.nil] at r2
    subst r2
    have : ps = [] := List.length_eq_zero_iff.mp (by rw [hl]; simp)
    subst this
    exact RVs.nil.mpr rfl
  | x :: xs, y :: ys, _, _, ps, r1, r2, g, hl, hp => by
    obtain ⟨v, vr, e1, q1, q2⟩ := RVs.cons.mp r1
    obtain ⟨w, wr, e2, q3, q4⟩ := RVs.cons.mp r2
    subst e1 e2
    cases ps with
    | nil => simp at hl
    | cons p ps =>
      obtain ⟨T, x', y', ep, ex, ey, hT⟩ := hp 0 p rfl
      simp at ex ey
      subst ex ey
      refine RVs.mk ?_ (pairs_at q2 q4 g (by simp at hl; omega) fun j p' hj => ?_)
      · unfold RV
        exact ⟨T, _, ep, hT, by show 2 ≤ sizeLine; decide, RVs.mk (q1.grw g) (RVs.mk (q3.grw g) (RVs.nil.mpr rfl))⟩
      · obtain ⟨T', x', y', a, b, c, d⟩ := hp (j + 1) p' (by simpa using hj)
        exact ⟨T', x', y', a, by simpa using b, by simpa using c, d⟩
theorem pairsD_len : ∀ xs ys : List D, (pairsD xs ys).length = min xs.length ys.length
  | [], _ => by simp [pairsD]
  | _ :: _, [] => by simp [pairsD]
  | x :: xs, y :: ys => by simp [pairsD, pairsD_len xs ys]
theorem ok_lstZip : OkL K mg false (rListZip K) gLstZip := by
  intro m s H xs ds d Q S r e k
  unfold gLstZip at e
  split at e
  · rename_i x y
    obtain ⟨l1, e1, e2⟩ := Option.bind_eq_some_iff.mp e
    obtain ⟨l2, e3, e4⟩ := Option.map_eq_some_iff.mp e2
    subst e4
    obtain ⟨v, w, ev, q1, q2⟩ := two r
    obtain ⟨a, vs, ea, ha, hla, ra⟩ := seq_at e1 q1
    obtain ⟨b, ws, eb, hb, hlb, rb⟩ := seq_at e3 q2
    refine ⟨a, b, vs, ws, by rw [ev, ea, eb], ha, hb, fun l H2 Z => ?_⟩
    obtain ⟨ps, h1, h2, h3⟩ := Z.it
    refine k _ _ Z.grw ?_ fun z => nomatch z
    unfold RV
    exact ⟨l, ps, rfl, h1, S.noPhi Z.new, S.noAv Z.new, by rw [pairsD_len]; exact Nat.le_trans (Nat.min_le_left ..) hla, pairs_at ra rb Z.grw h2 h3⟩
  · cases e
end
section
variable {X : Cx} {W : WX} {e e2 : Expr} {gl : EL} {n : Nat} {p p2 pos2 pos : Pos}
theorem se_lstZip (hc : X.calm = true) (hg : Gl X "list") (hm : X.mg "list" = none) (hg2 : Gl X "zip") (hm2 : X.mg "zip" = none) (ha : SA X W n [e, e2] gl)
    (hs2 : starEach [e, e2] X.env = (false, eval e X.env) :: starEach [e2] X.env := by rfl) (hpl2 : (backTo pos2 (starEach [e2] X.env)).any (·.1) = false := by rfl)
    (hs : starEach [.Call (.Name "zip" p2) [e, e2] [] pos2] X.env = (false, eval (.Call (.Name "zip" p2) [e, e2] [] pos2) X.env) :: starEach [] X.env := by rfl) :
    SE X W false (.Call (.Name "list" p) [.Call (.Name "zip" p2) [e, e2] [] pos2] [] pos) (eFn gLstZip gl) :=
  PE.imp (pe_listZip hc ha hg hm hg2 hm2 boot_list hs2 hpl2 hs) fun σ H Q ⟨m, env, s, S, E, k⟩ => by
    refine ⟨m, env, s, S, E, (KontG.bind k).imp fun xs H1 ⟨dxs, s1, m1, e1, A, k1⟩ => ?_⟩
    obtain ⟨d, e, q⟩ := fin_of A.sim (k1.moveD A.st A.ph)
    exact ok_lstZip m1 s1 H1 xs dxs d Q A.sim A.rel.1 e q
end
end G

end
section
/-! Bellman and Ford over triples (from, to, weight), with the rows by which moments rose last. -/
namespace BFN
abbrev Tr := Nat × Nat × Int
structure St where
  h : List Int
  la : List (Option Nat)
  ri : Option Nat
def stp (s : St) (i : Nat) (t : Tr) : St :=
  if s.h.getD t.1 0 + t.2.2 > s.h.getD t.2.1 0 then ⟨s.h.set t.2.1 (s.h.getD t.1 0 + t.2.2), s.la.set t.2.1 (some i), some i⟩ else s
def pass : Nat → List Tr → St → St
  | _, [], s => s
  | i, t :: ts, s => pass (i + 1) ts (stp s i t)
/-- at most n rounds: heights, or the last state -/
def rounds (T : List Tr) : Nat → St → List Int ⊕ (Nat × List (Option Nat))
  | 0, s => .inr (s.ri.getD 0, s.la)
  | n + 1, s => match (pass 0 T { s with ri := none }).ri with
    | none => .inl (pass 0 T { s with ri := none }).h
    | some _ => rounds T n (pass 0 T { s with ri := none })
def Tok (n : Nat) (t : Tr) : Prop := t.1 < n ∧ t.2.1 < n
structure Len (n : Nat) (s : St) : Prop where
  h : s.h.length = n
  la : s.la.length = n
theorem stp_len {n i : Nat} {s : St} {t : Tr} (L : Len n s) : Len n (stp s i t) := by
  unfold stp
  split
  · exact ⟨by simp [L.h], by simp [L.la]⟩
  · exact L
theorem pass_len {n : Nat} : ∀ {ts : List Tr} {i : Nat} {s : St}, Len n s → Len n (pass i ts s)
  | [], _, _, L => L
  | t :: ts, i, s, L => pass_len (ts := ts) (stp_len L)
/-- nothing rose: nothing changed, all triples are kept -/
theorem stp_ri {i : Nat} {s : St} {t : Tr} (h : (stp s i t).ri = none) : stp s i t = s ∧ s.h.getD t.1 0 + t.2.2 ≤ s.h.getD t.2.1 0 := by
  unfold stp at h ⊢
  split
  · rename_i g
    rw [if_pos g] at h
    cases h
  · rename_i g
    exact ⟨rfl, by omega⟩
theorem stp_mono {i : Nat} {s : St} {t : Tr} (h : s.ri ≠ none) : (stp s i t).ri ≠ none := by
  unfold stp
  split
  · simp
  · exact h
theorem pass_mono : ∀ {ts : List Tr} {i : Nat} {s : St}, s.ri ≠ none → (pass i ts s).ri ≠ none
  | [], _, _, h => h
  | t :: ts, i, s, h => pass_mono (ts := ts) (stp_mono h)
theorem pass_none : ∀ {ts : List Tr} {i : Nat} {s : St}, (pass i ts s).ri = none → pass i ts s = s ∧ ∀ t ∈ ts, s.h.getD t.1 0 + t.2.2 ≤ s.h.getD t.2.1 0
  | [], _, _, h => ⟨rfl, by simp⟩
  | t :: ts, i, s, h => by
    have q : (stp s i t).ri = none := by
      cases e : (stp s i t).ri with
      | none => rfl
      | some k => exact absurd h (pass_mono (ts := ts) (i := i + 1) (s := stp s i t) (by rw [e]; simp))
    obtain ⟨e1, e2⟩ := stp_ri q
    obtain ⟨e3, e4⟩ := pass_none (ts := ts) h
    unfold pass
    rw [e1] at e3 e4 ⊢
    refine ⟨e3, fun t' ht => ?_⟩
    rcases List.mem_cons.mp ht with e | ht
    · rw [e]; exact e2
    · exact e4 t' ht
/-! what is told of times -/
structure Gh where
  r : Nat → Nat
  c : Nat → Nat
  k : Nat
def upd {β : Type} (f : Nat → β) (v : Nat) (x : β) : Nat → β := fun u => if u = v then x else f u
/-- T: all triples; in round t, those below j are done -/
structure Inv (n : Nat) (T : List Tr) (t j : Nat) (s : St) (g : Gh) : Prop where
  len : Len n s
  no : ∀ v, v < n → s.la[v]? = some none → g.r v = 0
  so : ∀ (v i : Nat), s.la[v]? = some (some i) → ∃ u w, T[i]? = some (u, v, w) ∧ u ≠ v ∧ g.r v ≤ g.r u + 1 ∧ s.h.getD v 0 ≤ s.h.getD u 0 + w ∧ (g.c v < g.c u → s.h.getD v 0 < s.h.getD u 0 + w) ∧ 0 < g.c v ∧ g.c v ≤ g.k
  inj : ∀ u v, 0 < g.c u → g.c u = g.c v → u = v
  ck : ∀ v, g.c v ≤ g.k
  rt : ∀ v, g.r v ≤ t
  dn : ∀ i u v w, T[i]? = some (u, v, w) → i < j → g.r u < t → s.h.getD u 0 + w ≤ s.h.getD v 0
  up : ∀ i u v w, T[i]? = some (u, v, w) → j ≤ i → g.r u + 1 < t → s.h.getD u 0 + w ≤ s.h.getD v 0
  ri : ∀ i, s.ri = some i → ∃ u v w, T[i]? = some (u, v, w) ∧ g.r v = t
theorem getD_set {l : List Int} {i j : Nat} {x : Int} (h : i < l.length) : (l.set i x).getD j 0 = if j = i then x else l.getD j 0 := by
  rw [List.getD_eq_getElem?_getD, List.getElem?_set]
  by_cases e : i = j
  · subst e; simp [h]
  · simp [e, Ne.symm e, List.getD_eq_getElem?_getD]
theorem inv_stp {n : Nat} {T : List Tr} {t j : Nat} {s : St} {g : Gh} {x : Tr} (I : Inv n T t j s g) (hx : T[j]? = some x) (ht : Tok n x) (hs : x.1 = x.2.1 → x.2.2 ≤ 0) (h0 : 0 < t) :
    ∃ g', Inv n T t (j + 1) (stp s j x) g' := by
  obtain ⟨u, v, w⟩ := x
  simp only at hs
  obtain ⟨hu, hv⟩ := ht
  simp only at hu hv
  unfold stp
  simp only
  split
  · rename_i hr
    have huv : u ≠ v := by
      intro e
      have := hs e
      rw [e] at hr
      omega
    have hru : t ≤ g.r u + 1 := by
      by_cases q : g.r u + 1 < t
      · have := I.up j u v w hx (Nat.le_refl _) q
        omega
      · omega
    have hl : v < s.h.length := by rw [I.len.h]; exact hv
    refine ⟨⟨upd g.r v t, upd g.c v (g.k + 1), g.k + 1⟩, ⟨by simp [I.len.h], by simp [I.len.la]⟩, ?_, ?_, ?_, ?_, ?_, ?_, ?_, ?_⟩
    · intro z hz hn
      simp only [upd]
      by_cases e : z = v
      · subst e
        rw [List.getElem?_set] at hn
        simp [I.len.la, hz] at hn
      · rw [if_neg e]
        rw [List.getElem?_set_ne (Ne.symm e)] at hn
        exact I.no z hz hn
    · intro z i hn
      simp only [upd]
      by_cases e : z = v
      · subst e
        rw [List.getElem?_set] at hn
        simp [I.len.la, hv] at hn
        subst hn
        refine ⟨u, w, hx, huv, ?_, ?_, ?_, ?_, ?_⟩
        · rw [if_pos rfl, if_neg huv]; exact hru
        · rw [getD_set hl, getD_set hl, if_pos rfl, if_neg huv]; omega
        · rw [if_pos rfl, if_neg huv]
          intro q
          have := I.ck u
          omega
        · rw [if_pos rfl]; omega
        · rw [if_pos rfl]; omega
      · rw [List.getElem?_set_ne (Ne.symm e)] at hn
        obtain ⟨y, w', h1, h2, h3, h4, h5, h6, h7⟩ := I.so z i hn
        refine ⟨y, w', h1, h2, ?_, ?_, ?_, ?_, ?_⟩
        · rw [if_neg e]
          by_cases e2 : y = v
          · rw [if_pos e2]; have := I.rt z; omega
          · rw [if_neg e2]; exact h3
        · rw [getD_set hl, getD_set hl, if_neg e]
          by_cases e2 : y = v
          · rw [if_pos e2]; subst e2; omega
          · rw [if_neg e2]; exact h4
        · rw [if_neg e, getD_set hl, getD_set hl, if_neg e]
          by_cases e2 : y = v
          · rw [if_pos e2, if_pos e2]; subst e2; omega
          · rw [if_neg e2, if_neg e2]; exact h5
        · rw [if_neg e]; exact h6
        · rw [if_neg e]; omega
    · intro y z
      simp only [upd]
      by_cases e1 : y = v
      · by_cases e2 : z = v
        · intro _ _; rw [e1, e2]
        · rw [if_pos e1, if_neg e2]
          intro _ q
          have := I.ck z
          omega
      · by_cases e2 : z = v
        · rw [if_neg e1, if_pos e2]
          intro _ q
          have := I.ck y
          omega
        · rw [if_neg e1, if_neg e2]
          exact I.inj y z
    · intro z
      simp only [upd]
      have := I.ck z
      split <;> omega
    · intro z
      simp only [upd]
      have := I.rt z
      split <;> omega
    · intro i y z w' h1 h2 h3
      simp only [upd] at h3
      by_cases e2 : y = v
      · rw [if_pos e2] at h3; omega
      · rw [if_neg e2] at h3
        rw [getD_set hl, getD_set hl, if_neg e2]
        by_cases hij : i = j
        · subst hij
          rw [hx] at h1
          cases h1
          rw [if_pos rfl]; omega
        · have := I.dn i y z w' h1 (by omega) h3
          by_cases e3 : z = v
          · rw [if_pos e3]; subst e3; omega
          · rw [if_neg e3]; exact this
    · intro i y z w' h1 h2 h3
      simp only [upd] at h3
      by_cases e2 : y = v
      · rw [if_pos e2] at h3; omega
      · rw [if_neg e2] at h3
        rw [getD_set hl, getD_set hl, if_neg e2]
        have := I.up i y z w' h1 (by omega) h3
        by_cases e3 : z = v
        · rw [if_pos e3]; subst e3; omega
        · rw [if_neg e3]; exact this
    · intro i hi
      cases hi
      exact ⟨u, v, w, hx, by simp [upd]⟩
  · rename_i hr
    refine ⟨g, I.len, I.no, I.so, I.inj, I.ck, I.rt, ?_, ?_, I.ri⟩
    · intro i y z w' h1 h2 h3
      by_cases hij : i = j
      · subst hij
        rw [hx] at h1
        cases h1
        omega
      · exact I.dn i y z w' h1 (by omega) h3
    · intro i y z w' h1 h2 h3
      exact I.up i y z w' h1 (by omega) h3
theorem inv_pass {n : Nat} {T : List Tr} {t : Nat} (hT : ∀ x ∈ T, Tok n x) (hs : ∀ x ∈ T, x.1 = x.2.1 → x.2.2 ≤ 0) (h0 : 0 < t) : ∀ {ts : List Tr} {j : Nat} {s : St} {g : Gh}, Inv n T t j s g → T.drop j = ts →
    ∃ g', Inv n T t T.length (pass j ts s) g'
  | [], j, s, g, I, e => by
    have hj : T.length ≤ j := List.drop_eq_nil_iff.mp e
    unfold pass
    refine ⟨g, I.len, I.no, I.so, I.inj, I.ck, I.rt, ?_, ?_, I.ri⟩
    · intro i u v w h1 h2 h3
      exact I.dn i u v w h1 (by omega) h3
    · intro i u v w h1 h2 h3
      rw [List.getElem?_eq_none h2] at h1
      cases h1
  | x :: ts, j, s, g, I, e => by
    have hj : T[j]? = some x := by
      have : (T.drop j)[0]? = some x := by rw [e]; rfl
      simpa using this
    have hm : x ∈ T := List.mem_of_getElem? hj
    obtain ⟨g', I'⟩ := inv_stp I hj (hT x hm) (hs x hm) h0
    unfold pass
    refine inv_pass hT hs h0 I' ?_
    rw [← List.drop_drop, e]
    rfl
def st0 (n : Nat) : St := ⟨List.replicate n 0, List.replicate n none, none⟩
theorem inv_0 {n : Nat} {T : List Tr} : Inv n T 1 0 (st0 n) ⟨fun _ => 0, fun _ => 0, 0⟩ := by
  refine ⟨⟨by simp [st0], by simp [st0]⟩, fun _ _ _ => rfl, ?_, ?_, fun _ => Nat.le_refl _, fun _ => by simp, ?_, ?_, ?_⟩
  · intro v i h
    simp [st0, List.getElem?_replicate] at h
  · intro u v h
    exact absurd h (by simp)
  · intro i u v w _ h
    omega
  · intro i u v w _ _ h
    simp at h
  · intro i h
    cases h
theorem Inv.clr {n : Nat} {T : List Tr} {t j : Nat} {s : St} {g : Gh} (I : Inv n T t j s g) : Inv n T t j { s with ri := none } g := ⟨⟨I.len.h, I.len.la⟩, I.no, I.so, I.inj, I.ck, I.rt, I.dn, I.up, fun _ h => nomatch h⟩
theorem Inv.next {n : Nat} {T : List Tr} {t : Nat} {s : St} {g : Gh} (I : Inv n T t T.length s g) : Inv n T (t + 1) 0 { s with ri := none } g := by
  refine ⟨⟨I.len.h, I.len.la⟩, I.no, I.so, I.inj, I.ck, fun v => by have := I.rt v; omega, ?_, ?_, fun _ h => nomatch h⟩
  · intro i u v w _ h
    omega
  · intro i u v w h1 _ h3
    have hi : i < T.length := (List.getElem?_eq_some_iff.mp h1).1
    exact I.dn i u v w h1 hi (by omega)
/-- all rounds -/
theorem rounds_ok {n : Nat} {T : List Tr} (hT : ∀ x ∈ T, Tok n x) (hs : ∀ x ∈ T, x.1 = x.2.1 → x.2.2 ≤ 0) : ∀ (k t : Nat) (s : St) (g : Gh), 0 < t → Inv n T t 0 { s with ri := none } g →
    match rounds T (k + 1) s with
    | .inl h => h.length = n ∧ ∀ x ∈ T, h.getD x.1 0 + x.2.2 ≤ h.getD x.2.1 0
    | .inr (ri, la) => ∃ s' g', Inv n T (t + k) T.length s' g' ∧ s'.la = la ∧ s'.ri = some ri := by
  intro k
  induction k with
  | zero =>
    intro t s g h0 I
    obtain ⟨g', I'⟩ := inv_pass hT hs h0 I (ts := T) rfl
    unfold rounds
    cases e : (pass 0 T { s with ri := none }).ri with
    | none =>
      obtain ⟨e1, e2⟩ := pass_none e
      simp only
      refine ⟨I'.len.h, ?_⟩
      rw [e1]
      exact e2
    | some i =>
      simp only [rounds]
      exact ⟨_, g', I', rfl, by rw [e]; rfl⟩
  | succ k ih =>
    intro t s g h0 I
    obtain ⟨g', I'⟩ := inv_pass hT hs h0 I (ts := T) rfl
    unfold rounds
    cases e : (pass 0 T { s with ri := none }).ri with
    | none =>
      obtain ⟨e1, e2⟩ := pass_none e
      simp only
      refine ⟨I'.len.h, ?_⟩
      rw [e1]
      exact e2
    | some i =>
      simp only
      have := ih (t + 1) (pass 0 T { s with ri := none }) g' (by omega) I'.next
      revert this
      cases rounds T (k + 1) (pass 0 T { s with ri := none }) with
      | inl h => exact fun q => q
      | inr p =>
        obtain ⟨ri, la⟩ := p
        rintro ⟨s', g'', q1, q2, q3⟩
        exact ⟨s', g'', by rw [show t + (k + 1) = t + 1 + k from by omega]; exact q1, q2, q3⟩
/-! the way back by the rows that rose last -/
def bk (T : List Tr) (la : List (Option Nat)) (v : Nat) : Nat := match la[v]? with
  | some (some i) => match T[i]? with
    | some t => t.1
    | none => v
  | _ => v
def bks (T : List Tr) (la : List (Option Nat)) : Nat → Nat → Nat
  | 0, v => v
  | k + 1, v => bks T la k (bk T la v)
theorem bks_add {T : List Tr} {la : List (Option Nat)} : ∀ (j k v : Nat), bks T la (j + k) v = bks T la k (bks T la j v)
  | 0, k, v => by simp [bks]
  | j + 1, k, v => by
    rw [show j + 1 + k = (j + k) + 1 from by omega]
    show bks T la (j + k) (bk T la v) = bks T la k (bks T la j (bk T la v))
    exact bks_add j k _
/-- the row by which v rose last -/
def Las (T : List Tr) (la : List (Option Nat)) (v : Nat) : Prop := ∃ i u w, la[v]? = some (some i) ∧ T[i]? = some (u, v, w) ∧ bk T la v = u
theorem las_of {n : Nat} {T : List Tr} {t j : Nat} {s : St} {g : Gh} (I : Inv n T t j s g) {v : Nat} (hv : v < n) (h : 0 < g.r v) : Las T s.la v ∧ g.r v ≤ g.r (bk T s.la v) + 1 := by
  have hl : v < s.la.length := by rw [I.len.la]; exact hv
  cases e : s.la[v]? with
  | none => rw [List.getElem?_eq_none_iff] at e; omega
  | some o =>
    cases o with
    | none => have := I.no v hv e; omega
    | some i =>
      obtain ⟨u, w, h1, h2, h3, h4, h5, h6, h7⟩ := I.so v i e
      have hb : bk T s.la v = u := by simp [bk, e, h1]
      exact ⟨⟨i, u, w, e, h1, hb⟩, by rw [hb]; exact h3⟩
theorem bk_lt {n : Nat} {T : List Tr} {la : List (Option Nat)} (hT : ∀ x ∈ T, Tok n x) {v : Nat} (hv : v < n) : bk T la v < n := by
  unfold bk
  split
  · split
    · rename_i t e
      exact (hT t (List.mem_of_getElem? e)).1
    · exact hv
  · exact hv
theorem bks_lt {n : Nat} {T : List Tr} {la : List (Option Nat)} (hT : ∀ x ∈ T, Tok n x) : ∀ {k v : Nat}, v < n → bks T la k v < n
  | 0, v, hv => hv
  | k + 1, v, hv => bks_lt (k := k) hT (bk_lt hT hv)
theorem bks_las {n : Nat} {T : List Tr} {t j : Nat} {s : St} {g : Gh} (I : Inv n T t j s g) (hT : ∀ x ∈ T, Tok n x) : ∀ (k : Nat) {v : Nat}, v < n → k < g.r v → Las T s.la (bks T s.la k v) ∧ g.r v ≤ g.r (bks T s.la k v) + k
  | 0, v, hv, h => ⟨(las_of I hv h).1, by simp [bks]⟩
  | k + 1, v, hv, h => by
    obtain ⟨l, h1⟩ := las_of I hv (by omega)
    obtain ⟨l2, h2⟩ := bks_las I hT k (bk_lt (la := s.la) hT hv) (by omega)
    refine ⟨l2, ?_⟩
    show g.r v ≤ g.r (bks T s.la k (bk T s.la v)) + (k + 1)
    omega
/-- more than n below n: two are the same -/
theorem pigeon {n : Nat} {f : Nat → Nat} (h : ∀ k, k ≤ n → f k < n) : ∃ i j, i < j ∧ j ≤ n ∧ f i = f j := by
  have key : ∀ (n : Nat) (l : List Nat), l.Nodup → (∀ x ∈ l, x < n) → l.length ≤ n := by
    intro n
    induction n with
    | zero =>
      intro l _ hl
      cases l with
      | nil => simp
      | cons x l => exact absurd (hl x (by simp)) (by omega)
    | succ n ih =>
      intro l hd hl
      by_cases hm : n ∈ l
      · have h1 : (l.erase n).length = l.length - 1 := List.length_erase_of_mem hm
        have h2 := ih (l.erase n) (hd.erase n) (fun x hx => by
          have hx1 := hl x (List.mem_of_mem_erase hx)
          have hx2 : x ≠ n := fun e => by
            rw [e] at hx
            exact (hd.not_mem_erase) hx
          omega)
        omega
      · have := ih l hd (fun x hx => by
          have h1 := hl x hx
          have h2 : x ≠ n := fun e => hm (e ▸ hx)
          omega)
        omega
  by_cases hc : ∃ i j, i < j ∧ j ≤ n ∧ f i = f j
  · exact hc
  · have hd : ((List.range (n + 1)).map f).Nodup := by
      rw [List.Nodup, List.pairwise_map]
      refine List.Pairwise.imp_of_mem ?_ (List.pairwise_lt_range (n := n + 1))
      intro a b ha hb hab e
      exact hc ⟨a, b, hab, by have := List.mem_range.mp hb; omega, e⟩
    have := key n _ hd (fun x hx => by
      obtain ⟨k, hk, e⟩ := List.mem_map.mp hx
      rw [← e]
      exact h k (by have := List.mem_range.mp hk; omega))
    simp at this
    omega
/-- rows in a row: from a to b, the sum of weights -/
inductive Way (T : List Tr) : Nat → Nat → Int → List Nat → Prop where
  | nil (a : Nat) : Way T a a 0 []
  | cons {a b c : Nat} {w x : Int} {i : Nat} {l : List Nat} : T[i]? = some (a, b, w) → Way T b c x l → Way T a c (w + x) (i :: l)
theorem bks_bk {T : List Tr} {la : List (Option Nat)} : ∀ (k v : Nat), bks T la k (bk T la v) = bk T la (bks T la k v)
  | 0, _ => rfl
  | k + 1, v => by
    show bks T la k (bk T la (bk T la v)) = bk T la (bks T la k (bk T la v))
    exact bks_bk k _
theorem bks_suc {T : List Tr} {la : List (Option Nat)} (k v : Nat) : bks T la (k + 1) v = bk T la (bks T la k v) := bks_bk k v
/-- the number of the row by which v rose last -/
def ix (la : List (Option Nat)) (v : Nat) : Nat := (la.getD v none).getD 0
/-- the rows of k steps back from v, the last one first -/
def rowsB (T : List Tr) (la : List (Option Nat)) : Nat → Nat → List Nat
  | 0, _ => []
  | k + 1, v => ix la (bks T la k v) :: rowsB T la k v
theorem rowsB_len {T : List Tr} {la : List (Option Nat)} : ∀ (k v : Nat), (rowsB T la k v).length = k
  | 0, _ => rfl
  | k + 1, v => by simp [rowsB, rowsB_len k v]
/-- k steps back from v, with rows -/
theorem back_way {n : Nat} {T : List Tr} {t j : Nat} {s : St} {g : Gh} (I : Inv n T t j s g) (v : Nat) : ∀ (k : Nat), (∀ i, i < k → Las T s.la (bks T s.la i v)) →
    ∃ y, Way T (bks T s.la k v) v y (rowsB T s.la k v) ∧ s.h.getD v 0 ≤ s.h.getD (bks T s.la k v) 0 + y ∧ (s.h.getD v 0 < s.h.getD (bks T s.la k v) 0 + y ∨ ∀ i, i < k → g.c (bks T s.la (i + 1) v) ≤ g.c (bks T s.la i v))
  | 0, _ => ⟨0, .nil v, by simp [bks], .inr fun i h => absurd h (by omega)⟩
  | k + 1, h => by
    obtain ⟨y, W, h1, h2⟩ := back_way I v k (fun i hi => h i (by omega))
    obtain ⟨i, u, w, e1, e2, e3⟩ := h k (by omega)
    obtain ⟨u', w', f1, f2, f3, f4, f5, f6, f7⟩ := I.so _ i e1
    rw [e2] at f1
    cases f1
    have eb : bks T s.la (k + 1) v = u := by rw [bks_suc, e3]
    have ei : ix s.la (bks T s.la k v) = i := by simp [ix, List.getD_eq_getElem?_getD, e1]
    refine ⟨w + y, ?_, ?_, ?_⟩
    · rw [eb]
      unfold rowsB
      rw [ei]
      exact .cons e2 W
    · rw [eb]; omega
    · rcases h2 with h2 | h2
      · left; rw [eb]; omega
      · by_cases hc : g.c (bks T s.la k v) < g.c u
        · left
          have := f5 hc
          rw [eb]; omega
        · right
          intro i' hi'
          by_cases e : i' = k
          · rw [e, eb]; omega
          · exact h2 i' (by omega)
/-- a ring: from a moment back to it, more than nothing -/
theorem ring_pos {n : Nat} {T : List Tr} {t j : Nat} {s : St} {g : Gh} (I : Inv n T t j s g) {v p : Nat} (hp : 0 < p) (hc : bks T s.la p v = v) (h : ∀ i, i < p → Las T s.la (bks T s.la i v)) : ∃ y, Way T v v y (rowsB T s.la p v) ∧ 0 < y := by
  obtain ⟨y, W, h1, h2⟩ := back_way I v p h
  rw [hc] at W h1 h2
  refine ⟨y, W, ?_⟩
  rcases h2 with h2 | h2
  · omega
  · exfalso
    obtain ⟨i, u, w, e1, e2, e3⟩ := h 0 hp
    simp only [bks] at e1 e2 e3
    obtain ⟨u', w', f1, f2, f3, f4, f5, f6, f7⟩ := I.so v i e1
    rw [e2] at f1
    cases f1
    have mono : ∀ k, 1 ≤ k → k ≤ p → g.c (bks T s.la k v) ≤ g.c (bks T s.la 1 v) := by
      intro k
      induction k with
      | zero => intro h; omega
      | succ k ih =>
        intro _ hk
        by_cases h0 : k = 0
        · rw [h0]; exact Nat.le_refl _
        · exact Nat.le_trans (h2 k (by omega)) (ih (by omega) (by omega))
    have h3 := mono p hp (Nat.le_refl _)
    have h4 := h2 0 hp
    rw [hc] at h3
    simp only [bks] at h3 h4
    rw [e3] at h3 h4
    exact f2 (I.inj v u f6 (by omega)).symm
/-- the ring: fuel, where one is, what is found -/
def ringL (T : List Tr) (la : List (Option Nat)) (at_ : Nat) : Nat → Nat → List Nat → List Nat
  | 0, _, acc => acc
  | k + 1, here, acc => if here = at_ then acc else ringL T la at_ k (bk T la here) (ix la here :: acc)
theorem ringL_ok {T : List Tr} {la : List (Option Nat)} {v p : Nat} (hc : bks T la p v = v) (hm : ∀ i, 0 < i → i < p → bks T la i v ≠ v) : ∀ (k i : Nat), 0 < i → i ≤ p → p < i + k → ringL T la v k (bks T la i v) (rowsB T la i v) = rowsB T la p v
  | 0, i, _, h, h2 => by omega
  | k + 1, i, h0, h, h2 => by
    unfold ringL
    by_cases e : i = p
    · rw [e, if_pos hc]
    · rw [if_neg (hm i h0 (by omega))]
      exact ringL_ok hc hm k (i + 1) (by omega) (by omega) (by omega) |> fun q => by rw [bks_suc] at q; exact q
/-- the least way round -/
theorem least_p {P : Nat → Prop} [DecidablePred P] {p : Nat} (h0 : 0 < p) (h : P p) : ∃ q, 0 < q ∧ q ≤ p ∧ P q ∧ ∀ i, 0 < i → i < q → ¬ P i := by
  induction p using Nat.strongRecOn with
  | _ p ih =>
    by_cases hc : ∃ i, 0 < i ∧ i < p ∧ P i
    · obtain ⟨i, h1, h2, h3⟩ := hc
      obtain ⟨q, q1, q2, q3, q4⟩ := ih i h2 h1 h3
      exact ⟨q, q1, by omega, q3, q4⟩
    · exact ⟨p, h0, Nat.le_refl _, h, fun i h1 h2 h3 => hc ⟨i, h1, h2, h3⟩⟩
/-- from the row that still rises -/
theorem ring_by_ok {n : Nat} {T : List Tr} (hT : ∀ x ∈ T, Tok n x) (hs : ∀ x ∈ T, x.1 = x.2.1 → x.2.2 ≤ 0) {ri : Nat} {la : List (Option Nat)} (h : rounds T (n + 1) (st0 n) = .inr (ri, la)) :
    la.length = n ∧ ∃ u v w, T[ri]? = some (u, v, w) ∧ v < n ∧ (∀ k, k ≤ n + n → Las T la (bks T la k v)) ∧ ∃ p y, 0 < p ∧ p ≤ n ∧ bks T la p (bks T la n v) = bks T la n v ∧ (∀ i, 0 < i → i < p → bks T la i (bks T la n v) ≠ bks T la n v) ∧ Way T (bks T la n v) (bks T la n v) y (rowsB T la p (bks T la n v)) ∧ 0 < y := by
  have := rounds_ok hT hs n 1 (st0 n) _ (by omega) (Inv.clr inv_0)
  rw [h] at this
  obtain ⟨s', g', I, e1, e2⟩ := this
  obtain ⟨u, v, w, e3, e4⟩ := I.ri ri e2
  subst e1
  have hv : v < n := (hT _ (List.mem_of_getElem? e3)).2
  have l1 : ∀ k, k ≤ n → Las T s'.la (bks T s'.la k v) := fun k hk => (bks_las I hT k hv (by omega)).1
  obtain ⟨i, j, hij, hj, eij⟩ := pigeon (n := n) (f := fun k => bks T s'.la k v) (fun k hk => bks_lt hT hv)
  -- from i on all comes again
  have per : ∀ k, bks T s'.la (i + (j - i) + k) v = bks T s'.la (i + k) v := by
    intro k
    rw [show i + (j - i) + k = j + k from by omega, bks_add, bks_add, eij]
  have all : ∀ k, Las T s'.la (bks T s'.la k v) := by
    intro k
    induction k using Nat.strongRecOn with
    | _ k ih =>
      by_cases hk : k ≤ n
      · exact l1 k hk
      · have := per (k - j)
        rw [show i + (j - i) + (k - j) = k from by omega] at this
        rw [this]
        exact ih _ (by omega)
  refine ⟨I.len.la, u, v, w, e3, hv, fun k _ => all k, ?_⟩
  have hper : bks T s'.la (j - i) (bks T s'.la n v) = bks T s'.la n v := by
    rw [← bks_add]
    have := per (n - i)
    rw [show i + (j - i) + (n - i) = n + (j - i) from by omega, show i + (n - i) = n from by omega] at this
    exact this
  obtain ⟨p, p0, p1, p2, p3⟩ := least_p (P := fun p => bks T s'.la p (bks T s'.la n v) = bks T s'.la n v) (p := j - i) (by omega) hper
  obtain ⟨y, W, hy⟩ := ring_pos I p0 p2 (fun q _ => by rw [← bks_add]; exact all _)
  exact ⟨p, y, p0, by omega, p2, p3, W, hy⟩
theorem heights_ok {n : Nat} {T : List Tr} (hT : ∀ x ∈ T, Tok n x) (hs : ∀ x ∈ T, x.1 = x.2.1 → x.2.2 ≤ 0) {h : List Int} (e : rounds T (n + 1) (st0 n) = .inl h) : h.length = n ∧ ∀ x ∈ T, h.getD x.1 0 + x.2.2 ≤ h.getD x.2.1 0 := by
  have := rounds_ok hT hs n 1 (st0 n) _ (by omega) (Inv.clr inv_0)
  rw [e] at this
  exact this
end BFN

end
section
/-! rows, what solves them; closing of told gaps -/
namespace BFN
open G
abbrev Rw := Int × Int × Int × Bool
abbrev En := Int × Bool
def Rok (n : Nat) (r : Rw) : Prop := 0 ≤ r.1 ∧ r.1 < n ∧ 0 ≤ r.2.1 ∧ r.2.1 < n
def b2 (b : Bool) : Int := if b = true then 1 else 0
def tr (n : Nat) (r : Rw) : Tr := (r.1.toNat, r.2.1.toNat, r.2.2.1 * (n + 1) + b2 r.2.2.2)
def isLone (r : Rw) : Bool := decide (r.1 = r.2.1) && (decide (0 < r.2.2.1) || (decide (r.2.2.1 = 0) && r.2.2.2))
def lone : Nat → List Rw → Option Nat
  | _, [] => none
  | i, r :: rs => if isLone r = true then some i else lone (i + 1) rs
inductive Sol where
  | mom (h : List Int)
  | ring (l : List Nat)
def ringOf (n : Nat) (T : List Tr) (ri : Nat) (la : List (Option Nat)) : List Nat :=
  let v := bks T la n (T.getD ri (0, 0, 0)).2.1
  ringL T la v 8 (bk T la v) [ix la v]
def solve (n : Nat) (rows : List Rw) : Sol := match lone 0 rows with
  | some i => .ring [i]
  | none => match rounds (rows.map (tr n)) (n + 1) (st0 n) with
    | .inl h => .mom h
    | .inr (ri, la) => .ring (ringOf n (rows.map (tr n)) ri la)
def canBe (n : Nat) (rows : List Rw) : Bool := match solve n rows with
  | .mom _ => true
  | .ring _ => false
/-- rows in a row: from a to b, the sum, how many are strict -/
inductive RWay (rows : List Rw) : Int → Int → Int → Nat → List Nat → Prop where
  | nil (a : Int) : RWay rows a a 0 0 []
  | cons {a b c : Int} {w x : Int} {s : Bool} {k : Nat} {i : Nat} {l : List Nat} : rows[i]? = some (a, b, w, s) → RWay rows b c x k l → RWay rows a c (w + x) (k + (if s = true then 1 else 0)) (i :: l)
/-- it shuts -/
def Shuts (rows : List Rw) (l : List Nat) : Prop := ∃ a x k, RWay rows a a x k l ∧ (0 < x ∨ (x = 0 ∧ 0 < k)) ∧ 0 < l.length
theorem lone_some : ∀ {rs : List Rw} {i j : Nat}, lone i rs = some j → ∃ r, i ≤ j ∧ rs[j - i]? = some r ∧ isLone r = true
  | [], _, _, h => by cases h
  | r :: rs, i, j, h => by
    unfold lone at h
    split at h
    · rename_i e
      cases h
      exact ⟨r, Nat.le_refl _, by simp, e⟩
    · obtain ⟨r', h1, h2, h3⟩ := lone_some h
      refine ⟨r', by omega, ?_, h3⟩
      rw [show j - i = (j - (i + 1)) + 1 from by omega]
      simpa using h2
theorem lone_none : ∀ {rs : List Rw} {i : Nat}, lone i rs = none → ∀ r ∈ rs, isLone r = false
  | [], _, _ => by simp
  | r :: rs, i, h => by
    unfold lone at h
    split at h
    · cases h
    · rename_i e
      intro r' hr
      rcases List.mem_cons.mp hr with q | q
      · rw [q]; simpa using e
      · exact lone_none h r' q
theorem tok {n : Nat} {rows : List Rw} (h : ∀ r ∈ rows, Rok n r) : ∀ x ∈ rows.map (tr n), Tok n x := by
  intro x hx
  obtain ⟨r, hr, e⟩ := List.mem_map.mp hx
  obtain ⟨h1, h2, h3, h4⟩ := h r hr
  subst e
  exact ⟨by show r.1.toNat < n; omega, by show r.2.1.toNat < n; omega⟩
theorem tself {n : Nat} {rows : List Rw} (h : ∀ r ∈ rows, Rok n r) (hl : ∀ r ∈ rows, isLone r = false) : ∀ x ∈ rows.map (tr n), x.1 = x.2.1 → x.2.2 ≤ 0 := by
  intro x hx
  obtain ⟨r, hr, e⟩ := List.mem_map.mp hx
  obtain ⟨h1, h2, h3, h4⟩ := h r hr
  subst e
  intro e
  have e1 : r.1.toNat = r.2.1.toNat := e
  have e2 : r.1 = r.2.1 := by omega
  have := hl r hr
  simp only [isLone, e2, decide_true, Bool.true_and, Bool.or_eq_false_iff, Bool.and_eq_false_imp, decide_eq_false_iff_not, decide_eq_true_eq] at this
  obtain ⟨g1, g2⟩ := this
  show r.2.2.1 * (n + 1) + b2 r.2.2.2 ≤ 0
  have hb : b2 r.2.2.2 ≤ 1 := by unfold b2; split <;> omega
  by_cases e3 : r.2.2.1 = 0
  · have := g2 e3
    rw [this, e3]
    simp [b2]
  · have h5 : r.2.2.1 ≤ -1 := by omega
    have h6 : r.2.2.1 * ((n : Int) + 1) ≤ (-1) * ((n : Int) + 1) := Int.mul_le_mul_of_nonneg_right h5 (by omega)
    omega
/-- what keeps a row, n + 1 being one -/
def Kp (N : Int) (h : Int → Int) (r : Rw) : Prop := h r.1 + r.2.2.1 * N ≤ h r.2.1 ∧ (r.2.2.2 = true → h r.1 + r.2.2.1 * N < h r.2.1)
def hF (h : List Int) (a : Int) : Int := h.getD a.toNat 0
theorem solve_mom {n : Nat} {rows : List Rw} {h : List Int} (hr : ∀ r ∈ rows, Rok n r) (e : solve n rows = .mom h) : h.length = n ∧ ∀ r ∈ rows, Kp ((n : Int) + 1) (hF h) r := by
  unfold solve at e
  split at e
  · cases e
  · rename_i hl
    split at e
    · rename_i h' q
      cases e
      obtain ⟨h1, h2⟩ := heights_ok (tok hr) (tself hr (lone_none hl)) q
      refine ⟨h1, fun r hr' => ?_⟩
      have := h2 (tr n r) (List.mem_map_of_mem hr')
      have h3 : hF h r.1 + (r.2.2.1 * (n + 1) + b2 r.2.2.2) ≤ hF h r.2.1 := this
      unfold Kp
      unfold b2 at h3
      split at h3
      · exact ⟨by omega, fun _ => by omega⟩
      · exact ⟨by omega, fun q => absurd q (by assumption)⟩
    · cases e
/-- ways over triples are ways over rows -/
theorem way_rows {n : Nat} {rows : List Rw} (hr : ∀ r ∈ rows, Rok n r) {a b : Nat} {y : Int} {l : List Nat} (W : Way (rows.map (tr n)) a b y l) : ∃ x k, RWay rows a b x k l ∧ y = x * (n + 1) + k ∧ k ≤ l.length := by
  induction W with
  | nil a => exact ⟨0, 0, .nil _, by simp, Nat.le_refl _⟩
  | @cons a b c w x' i l e W ih =>
    obtain ⟨x, k, h1, h2, h3⟩ := ih
    rw [List.getElem?_map] at e
    cases q : rows[i]? with
    | none => rw [q] at e; cases e
    | some r =>
      rw [q] at e
      obtain ⟨a', b', w', s'⟩ := r
      obtain ⟨g1, g2, g3, g4⟩ := hr _ (List.mem_of_getElem? q)
      simp only at g1 g2 g3 g4
      simp only [Option.map_some, tr, Option.some.injEq, Prod.mk.injEq] at e
      obtain ⟨e1, e2, e3⟩ := e
      have e1' : a' = (a : Int) := by omega
      have e2' : b' = (b : Int) := by omega
      rw [e1', e2'] at q
      refine ⟨w' + x, _, .cons q h1, ?_, ?_⟩
      · rw [← e3, h2, Int.add_mul]
        unfold b2
        split <;> simp <;> omega
      · simp only [List.length_cons]
        split <;> omega
theorem solve_ring {n : Nat} {rows : List Rw} {l : List Nat} (hr : ∀ r ∈ rows, Rok n r) (hn : n ≤ 7) (e : solve n rows = .ring l) : Shuts rows l ∧ l.length ≤ max n 1 := by
  unfold solve at e
  split at e
  · rename_i i hl
    cases e
    obtain ⟨r, h1, h2, h3⟩ := lone_some hl
    obtain ⟨a, b, w, s⟩ := r
    simp only [isLone, Bool.and_eq_true, Bool.or_eq_true, decide_eq_true_eq] at h3
    obtain ⟨h3, h4⟩ := h3
    subst h3
    have W : RWay rows a a (w + 0) (0 + (if s = true then 1 else 0)) [i] := .cons h2 (.nil a)
    refine ⟨⟨a, _, _, W, ?_, by simp⟩, by simp; omega⟩
    rcases h4 with h4 | ⟨h4, h5⟩
    · left; omega
    · right; simp [h4, h5]
  · rename_i hl
    split at e
    · cases e
    · rename_i ri la q
      cases e
      obtain ⟨_, u, v, w, e3, hv, las, p, y, p0, p1, hc, hm, W, hy⟩ := ring_by_ok (tok hr) (tself hr (lone_none hl)) q
      have ee : ringOf n (rows.map (tr n)) ri la = rowsB (rows.map (tr n)) la p (bks (rows.map (tr n)) la n v) := by
        unfold ringOf
        rw [List.getD_eq_getElem?_getD, e3]
        show ringL _ _ (bks _ la n v) 8 (bk _ la (bks _ la n v)) [ix la (bks _ la n v)] = _
        exact ringL_ok hc hm 8 1 (by omega) p0 (by omega)
      rw [ee]
      obtain ⟨x, k, W2, ey, hk⟩ := way_rows hr W
      rw [rowsB_len] at hk ⊢
      refine ⟨⟨_, x, k, W2, ?_, by rw [rowsB_len]; exact p0⟩, by omega⟩
      by_cases hx : 0 < x
      · exact .inl hx
      · right
        have hk2 : (k : Int) ≤ n := by omega
        by_cases hx0 : x = 0
        · subst hx0
          exact ⟨rfl, by simp at ey; omega⟩
        · exfalso
          have h5 : x ≤ -1 := by omega
          have h6 : x * ((n : Int) + 1) ≤ (-1) * ((n : Int) + 1) := Int.mul_le_mul_of_nonneg_right h5 (by omega)
          omega
/-- along a way -/
theorem way_kp {rows : List Rw} {N : Int} {h : Int → Int} (hk : ∀ r ∈ rows, Kp N h r) {a b x : Int} {k : Nat} {l : List Nat} (W : RWay rows a b x k l) : h a + x * N ≤ h b ∧ (0 < k → h a + x * N < h b) := by
  induction W with
  | nil a => exact ⟨by simp, fun h => absurd h (by omega)⟩
  | cons e W ih =>
    obtain ⟨h1, h2⟩ := ih
    obtain ⟨h3, h4⟩ := hk _ (List.mem_of_getElem? e)
    simp only at h3 h4
    refine ⟨by rw [Int.add_mul]; omega, fun hk0 => ?_⟩
    rw [Int.add_mul]
    split at hk0
    · rename_i hs
      have := h4 hs
      omega
    · have := h2 (by omega)
      omega
/-- what shuts cannot be kept -/
theorem shuts_not {rows : List Rw} {N : Int} {h : Int → Int} (h0 : 0 < N) (hk : ∀ r ∈ rows, Kp N h r) {l : List Nat} (s : Shuts rows l) : False := by
  obtain ⟨a, x, k, W, h1, _⟩ := s
  obtain ⟨h2, h3⟩ := way_kp hk W
  rcases h1 with h1 | ⟨h1, h4⟩
  · have := Int.mul_pos h1 h0
    omega
  · have := h3 h4
    rw [h1] at this
    simp at this
/-- can be: just if some moments keep them -/
theorem canBe_kp {n : Nat} {rows : List Rw} {N : Int} {h : Int → Int} (hr : ∀ r ∈ rows, Rok n r) (hn : n ≤ 7) (h0 : 0 < N) (hk : ∀ r ∈ rows, Kp N h r) : canBe n rows = true := by
  unfold canBe
  cases e : solve n rows with
  | mom h => rfl
  | ring l => exact (shuts_not h0 hk (solve_ring hr hn e).1).elim
theorem canBe_mom {n : Nat} {rows : List Rw} (hr : ∀ r ∈ rows, Rok n r) (e : canBe n rows = true) : ∃ h, solve n rows = .mom h ∧ h.length = n ∧ ∀ r ∈ rows, Kp ((n : Int) + 1) (hF h) r := by
  unfold canBe at e
  cases q : solve n rows with
  | mom h => exact ⟨h, rfl, solve_mom hr q⟩
  | ring l => rw [q] at e; cases e
theorem canBe_not {n : Nat} {rows : List Rw} (hr : ∀ r ∈ rows, Rok n r) (hn : n ≤ 7) (e : canBe n rows = false) : ∃ l, solve n rows = .ring l ∧ Shuts rows l ∧ l.length ≤ max n 1 := by
  unfold canBe at e
  cases q : solve n rows with
  | mom h => rw [q] at e; cases e
  | ring l => exact ⟨l, rfl, solve_ring hr hn q⟩
end BFN

end
section
/-! closing told gaps, by tables -/
namespace BFN
open G
def gtE (x y : En) : Bool := if x.1 = y.1 then (x.2 && !y.2) else decide (y.1 < x.1)
def maxE (x y : En) : En := if gtE y x = true then y else x
def addE (x y : En) : En := (x.1 + y.1, x.2 || y.2)
def LeE (x y : En) : Prop := x.1 < y.1 ∨ (x.1 = y.1 ∧ (x.2 = true → y.2 = true))
theorem gtE_le {x y : En} : gtE x y = false ↔ LeE x y := by
  unfold gtE LeE
  by_cases e : x.1 = y.1
  · rw [if_pos e]
    cases x.2 <;> cases y.2 <;> simp [e]
  · rw [if_neg e]
    simp [e]
    omega
theorem LeE.refl (x : En) : LeE x x := .inr ⟨rfl, id⟩
theorem LeE.trans {x y z : En} (a : LeE x y) (b : LeE y z) : LeE x z := by
  unfold LeE at *
  rcases a with a | ⟨a1, a2⟩ <;> rcases b with b | ⟨b1, b2⟩
  · left; omega
  · left; omega
  · left; omega
  · right; exact ⟨by omega, fun h => b2 (a2 h)⟩
theorem LeE.of_gt {x y : En} (h : gtE x y = true) : LeE y x := by
  unfold gtE at h
  unfold LeE
  by_cases e : x.1 = y.1
  · rw [if_pos e] at h
    simp at h
    right; exact ⟨e.symm, fun q => by rw [h.2] at q; cases q⟩
  · rw [if_neg e] at h
    left; simpa using h
theorem LeE.anti {x y : En} (a : LeE x y) (b : LeE y x) : x = y := by
  unfold LeE at *
  obtain ⟨x1, x2⟩ := x
  obtain ⟨y1, y2⟩ := y
  simp only at *
  rcases a with a | ⟨a1, a2⟩ <;> rcases b with b | ⟨b1, b2⟩
  · omega
  · omega
  · omega
  · subst a1
    cases x2 <;> cases y2 <;> simp at *
theorem LeE.add {x y z w : En} (a : LeE x y) (b : LeE z w) : LeE (addE x z) (addE y w) := by
  unfold LeE addE at *
  simp only
  rcases a with a | ⟨a1, a2⟩ <;> rcases b with b | ⟨b1, b2⟩
  · left; omega
  · left; omega
  · left; omega
  · right
    refine ⟨by omega, ?_⟩
    intro h
    simp only [Bool.or_eq_true] at h ⊢
    exact h.imp a2 b2
theorem addE_assoc (x y z : En) : addE (addE x y) z = addE x (addE y z) := by simp [addE, Int.add_assoc, Bool.or_assoc]
def zE : En := (0, false)
theorem addE_z (x : En) : addE x zE = x := by simp [addE, zE]
theorem z_addE (x : En) : addE zE x = x := by simp [addE, zE]
theorem le_maxL (x y : En) : LeE x (maxE x y) := by
  unfold maxE
  split
  · rename_i h; exact LeE.of_gt h
  · exact LeE.refl x
theorem le_maxR (x y : En) : LeE y (maxE x y) := by
  unfold maxE
  split
  · exact LeE.refl y
  · rename_i h; exact gtE_le.mp (by simpa using h)
theorem max_le {x y z : En} (a : LeE x z) (b : LeE y z) : LeE (maxE x y) z := by
  unfold maxE
  split <;> assumption
theorem maxE_or (x y : En) : maxE x y = x ∨ maxE x y = y := by
  unfold maxE
  split
  · exact .inr rfl
  · exact .inl rfl
theorem maxE_self (x : En) : maxE x x = x := by rcases maxE_or x x with h | h <;> exact h
/-! tables of tables -/
abbrev AL := List (Int × En)
def row (K : List AL) (a : Int) : AL := K.getD a.toNat []
def get (K : List AL) (a b : Int) : Option En := lk (row K a) b
/-- known[f][b] = max(known[f].get(b, new), new) -/
def put1 (K : List AL) (f b : Int) (new : En) : List AL := K.set f.toNat (pt (row K f) b (maxE ((get K f b).getD new) new))
theorem row_set {K : List AL} {f a : Int} {r : AL} (hf : 0 ≤ f) (hf2 : f.toNat < K.length) (ha : 0 ≤ a) : row (K.set f.toNat r) a = if a = f then r else row K a := by
  unfold row
  rw [List.getD_eq_getElem?_getD, List.getElem?_set]
  by_cases e : f.toNat = a.toNat
  · have e2 : a = f := by omega
    rw [if_pos e, if_pos e2, if_pos hf2]
    rfl
  · have e2 : ¬ a = f := fun z => e (by rw [z])
    rw [if_neg e, if_neg e2, List.getD_eq_getElem?_getD]
theorem get_put1 {K : List AL} {f b a c : Int} {new : En} (hf : 0 ≤ f) (hf2 : f.toNat < K.length) (ha : 0 ≤ a) : get (put1 K f b new) a c = if a = f ∧ c = b then some (maxE ((get K f b).getD new) new) else get K a c := by
  unfold put1 get
  rw [row_set hf hf2 ha]
  by_cases e : a = f
  · rw [if_pos e, lk_pt, e]
    by_cases e2 : c = b
    · rw [if_pos e2, if_pos ⟨rfl, e2⟩]
    · rw [if_neg e2, if_neg (fun z => e2 z.2)]
  · rw [if_neg e, if_neg (fun z => e z.1)]
theorem put1_len {K : List AL} {f b : Int} {new : En} : (put1 K f b new).length = K.length := by simp [put1]
def keys (K : List AL) (a : Int) : List Int := (row K a).map (·.1)
theorem keys_get {K : List AL} {a b : Int} : b ∈ keys K a ↔ (get K a b).isSome = true := lk_mem
/-- for last in list(known[mid].keys()) -/
def inner (mid f : Int) (head : En) : List Int → List AL → List AL
  | [], K => K
  | b :: bs, K => inner mid f head bs (put1 K f b (addE head ((get K mid b).getD zE)))
def rowStep (mid : Int) (K : List AL) (f : Int) : List AL := match get K f mid with
  | none => K
  | some head => inner mid f head (keys K mid) K
def zrng (n : Nat) : List Int := (List.range n).map fun (i : Nat) => (i : Int)
def phase (n : Nat) (mid : Int) (K : List AL) : List AL := (zrng n).foldl (rowStep mid) K
def bad (n : Nat) (K : List AL) : Bool := (zrng n).any fun a => gtE ((get K a a).getD zE) zE
def closeFrom (n : Nat) : List Int → List AL → Option (List AL)
  | [], K => some K
  | mid :: ms, K => if bad n (phase n mid K) = true then none else closeFrom n ms (phase n mid K)
def addRow (K : List AL) (r : Rw) : List AL := put1 K r.1 r.2.1 (r.2.2.1, r.2.2.2)
def K0 (n : Nat) : List AL := (zrng n).map fun a => [(a, zE)]
def close (n : Nat) (rows : List Rw) : Option (List AL) := closeFrom n (zrng n) (rows.foldl addRow (K0 n))
theorem mem_zrng {n : Nat} {a : Int} : a ∈ zrng n ↔ 0 ≤ a ∧ a < n := by
  unfold zrng
  rw [List.mem_map]
  constructor
  · rintro ⟨i, hi, e⟩
    have := List.mem_range.mp hi
    omega
  · rintro ⟨h1, h2⟩
    exact ⟨a.toNat, List.mem_range.mpr (by omega), by omega⟩
/-- what is so of the tables: as many as moments, keys are moments, each moment's own is there -/
structure Wf (n : Nat) (K : List AL) : Prop where
  len : K.length = n
  ky : ∀ (a b : Int), 0 ≤ a → a < n → (get K a b).isSome = true → 0 ≤ b ∧ b < n
  di : ∀ (a : Int), 0 ≤ a → a < n → ∃ e, get K a a = some e ∧ LeE zE e
theorem Wf.put {n : Nat} {K : List AL} {f b : Int} {new : En} (W : Wf n K) (hf : 0 ≤ f ∧ f < n) (hb : 0 ≤ b ∧ b < n) : Wf n (put1 K f b new) := by
  have hl : f.toNat < K.length := by rw [W.len]; omega
  refine ⟨by rw [put1_len, W.len], fun a c h1 h2 h3 => ?_, fun a h1 h2 => ?_⟩
  · rw [get_put1 hf.1 hl h1] at h3
    split at h3
    · rename_i e; rw [e.2]; exact hb
    · exact W.ky a c h1 h2 h3
  · rw [get_put1 hf.1 hl h1]
    obtain ⟨e, h3, h4⟩ := W.di a h1 h2
    split
    · rename_i q
      refine ⟨_, rfl, LeE.trans ?_ (le_maxL _ _)⟩
      have : get K f b = some e := by rw [← h3, ← q.2, ← q.1]
      rw [this]
      exact h4
    · exact ⟨e, h3, h4⟩
/-- any property of the tables that a put keeps -/
theorem inner_ind {n : Nat} {mid f : Int} {head : En} (hm : 0 ≤ mid ∧ mid < n) (hf : 0 ≤ f ∧ f < n) {P : List AL → Prop} (hP : ∀ K b e, Wf n K → P K → get K mid b = some e → P (put1 K f b (addE head e))) : ∀ (bs : List Int) (K : List AL), Wf n K → P K → (∀ b ∈ bs, (get K mid b).isSome = true) → Wf n (inner mid f head bs K) ∧ P (inner mid f head bs K) := by
  intro bs
  induction bs with
  | nil => exact fun K W p _ => ⟨W, p⟩
  | cons b bs ih =>
    intro K W p hb
    have h1 := hb b (by simp)
    obtain ⟨e, he⟩ := Option.isSome_iff_exists.mp h1
    unfold inner
    rw [he]
    simp only [Option.getD_some]
    refine ih _ (W.put hf (W.ky mid b hm.1 hm.2 h1)) (hP K b e W p he) (fun c hc => ?_)
    rw [get_put1 hf.1 (by rw [W.len]; omega) hm.1]
    split
    · rfl
    · exact hb c (by simp [hc])
theorem rowStep_ind {n : Nat} {mid f : Int} {K : List AL} (hm : 0 ≤ mid ∧ mid < n) (hf : 0 ≤ f ∧ f < n) {P : List AL → Prop} (W : Wf n K) (p : P K) (hP : ∀ K' head b e, Wf n K' → P K' → get K f mid = some head → get K' mid b = some e → P (put1 K' f b (addE head e))) : Wf n (rowStep mid K f) ∧ P (rowStep mid K f) := by
  unfold rowStep
  split
  · exact ⟨W, p⟩
  · rename_i head q
    exact inner_ind hm hf (fun K' b e W' p' h => hP K' head b e W' p' q h) _ K W p (fun b hb => keys_get.mp hb)
/-- a way's sum, and whether a row is strict, held together by moments -/
def SatE (N : Int) (h : Int → Int) (K : List AL) (n : Nat) : Prop := ∀ (a b : Int) (e : En), 0 ≤ a → a < n → get K a b = some e → h a + e.1 * N ≤ h b ∧ (e.2 = true → h a + e.1 * N < h b)
theorem sat_add {N : Int} {h : Int → Int} {a b c : Int} {x y : En} (h1 : h a + x.1 * N ≤ h b ∧ (x.2 = true → h a + x.1 * N < h b)) (h2 : h b + y.1 * N ≤ h c ∧ (y.2 = true → h b + y.1 * N < h c)) : h a + (addE x y).1 * N ≤ h c ∧ ((addE x y).2 = true → h a + (addE x y).1 * N < h c) := by
  unfold addE
  simp only [Int.add_mul, Bool.or_eq_true]
  refine ⟨by omega, fun q => ?_⟩
  rcases q with q | q
  · have := h1.2 q; omega
  · have := h2.2 q; omega
theorem sat_put {N : Int} {h : Int → Int} {K : List AL} {n : Nat} {f b : Int} {new : En} (W : Wf n K) (S : SatE N h K n) (hf : 0 ≤ f ∧ f < n) (hn : h f + new.1 * N ≤ h b ∧ (new.2 = true → h f + new.1 * N < h b)) : SatE N h (put1 K f b new) n := by
  intro a c e h1 h2 h3
  rw [get_put1 hf.1 (by rw [W.len]; omega) h1] at h3
  split at h3
  · rename_i q
    obtain ⟨q1, q2⟩ := q
    subst q1 q2
    cases h3
    rcases maxE_or ((get K a c).getD new) new with h4 | h4
    · rw [h4]
      cases e : get K a c with
      | none => exact hn
      | some x => exact S a c x h1 h2 e
    · rw [h4]; exact hn
  · exact S a c e h1 h2 h3
theorem sat_rowStep {N : Int} {h : Int → Int} {K : List AL} {n : Nat} {mid f : Int} (hm : 0 ≤ mid ∧ mid < n) (hf : 0 ≤ f ∧ f < n) (W : Wf n K) (S : SatE N h K n) : Wf n (rowStep mid K f) ∧ SatE N h (rowStep mid K f) n :=
  rowStep_ind hm hf W S fun K' head b e W' S' hh he => sat_put W' S' hf (sat_add (S f mid head hf.1 hf.2 hh) (S' mid b e hm.1 hm.2 he))
theorem foldl_ind {α β : Type} {P : β → Prop} {g : β → α → β} : ∀ (l : List α) (x : β), P x → (∀ y a, a ∈ l → P y → P (g y a)) → P (l.foldl g x)
  | [], _, h, _ => h
  | a :: l, x, h, hg => foldl_ind l (g x a) (hg x a (by simp) h) (fun y b hb => hg y b (by simp [hb]))
theorem sat_phase {N : Int} {h : Int → Int} {K : List AL} {n : Nat} {mid : Int} (hm : 0 ≤ mid ∧ mid < n) (W : Wf n K) (S : SatE N h K n) : Wf n (phase n mid K) ∧ SatE N h (phase n mid K) n :=
  foldl_ind (P := fun K => Wf n K ∧ SatE N h K n) _ K ⟨W, S⟩ fun K' f hf ⟨W', S'⟩ => sat_rowStep hm (mem_zrng.mp hf) W' S'
theorem sat_good {N : Int} {h : Int → Int} {K : List AL} {n : Nat} (h0 : 0 < N) (W : Wf n K) (S : SatE N h K n) : bad n K = false := by
  unfold bad
  rw [List.any_eq_false]
  intro a ha
  obtain ⟨h1, h2⟩ := mem_zrng.mp ha
  obtain ⟨e, h3, h4⟩ := W.di a h1 h2
  obtain ⟨h5, h6⟩ := S a a e h1 h2 h3
  rw [h3]
  simp only [Option.getD_some, Bool.not_eq_true, gtE_le, LeE, zE]
  have h7 : e.1 * N ≤ 0 := by omega
  by_cases e1 : e.1 = 0
  · right
    refine ⟨e1, fun q => ?_⟩
    have := h6 q
    rw [e1] at this
    simp at this
  · left
    by_cases e2 : 0 < e.1
    · have := Int.mul_pos e2 h0
      omega
    · omega
theorem wf_K0 {n : Nat} : Wf n (K0 n) ∧ ∀ (a b : Int) (e : En), 0 ≤ a → a < n → get (K0 n) a b = some e → b = a ∧ e = zE := by
  have hr : ∀ (a : Int), 0 ≤ a → a < (n : Int) → row (K0 n) a = [(a, zE)] := by
    intro a h1 h2
    unfold row K0 zrng
    have : a.toNat < n := by omega
    simp [List.getD_eq_getElem?_getD, this, Int.toNat_of_nonneg h1]
  have hg : ∀ (a b : Int), 0 ≤ a → a < (n : Int) → get (K0 n) a b = if a = b then some zE else none := by
    intro a b h1 h2
    unfold get
    rw [hr a h1 h2]
    simp [lk]
  refine ⟨⟨by simp [K0, zrng], fun a b h1 h2 h3 => ?_, fun a h1 h2 => ⟨zE, by rw [hg a a h1 h2, if_pos rfl], LeE.refl _⟩⟩, fun a b e h1 h2 h3 => ?_⟩
  · rw [hg a b h1 h2] at h3
    split at h3
    · rename_i q; rw [← q]; exact ⟨h1, h2⟩
    · cases h3
  · rw [hg a b h1 h2] at h3
    split at h3
    · rename_i q; cases h3; exact ⟨q.symm, rfl⟩
    · cases h3
theorem wf_rows {n : Nat} {rows : List Rw} (hr : ∀ r ∈ rows, Rok n r) : Wf n (rows.foldl addRow (K0 n)) :=
  foldl_ind (P := fun K => Wf n K) _ _ wf_K0.1 fun K' r hr' W' => let ⟨h1, h2, h3, h4⟩ := hr r hr'; W'.put ⟨h1, h2⟩ ⟨h3, h4⟩
theorem sat_rows {N : Int} {h : Int → Int} {n : Nat} {rows : List Rw} (hr : ∀ r ∈ rows, Rok n r) (hk : ∀ r ∈ rows, Kp N h r) : Wf n (rows.foldl addRow (K0 n)) ∧ SatE N h (rows.foldl addRow (K0 n)) n := by
  refine foldl_ind (P := fun K => Wf n K ∧ SatE N h K n) _ _ ⟨wf_K0.1, fun a b e h1 h2 h3 => ?_⟩ fun K' r hr' ⟨W', S'⟩ => ?_
  · obtain ⟨q1, q2⟩ := wf_K0.2 a b e h1 h2 h3
    subst q1 q2
    simp [zE]
  · obtain ⟨h1, h2, h3, h4⟩ := hr r hr'
    exact ⟨W'.put ⟨h1, h2⟩ ⟨h3, h4⟩, sat_put W' S' ⟨h1, h2⟩ (hk r hr')⟩
theorem sat_closeFrom {N : Int} {h : Int → Int} {n : Nat} (h0 : 0 < N) : ∀ (ms : List Int) (K : List AL), (∀ m ∈ ms, 0 ≤ m ∧ m < n) → Wf n K → SatE N h K n → ∃ K', closeFrom n ms K = some K' ∧ Wf n K' ∧ SatE N h K' n
  | [], K, _, W, S => ⟨K, rfl, W, S⟩
  | m :: ms, K, hm, W, S => by
    obtain ⟨W', S'⟩ := sat_phase (hm m (by simp)) W S
    unfold closeFrom
    rw [sat_good h0 W' S', if_neg (by decide)]
    exact sat_closeFrom h0 ms _ (fun x hx => hm x (by simp [hx])) W' S'
/-- where moments keep the rows, they close, and the moments keep what is told then -/
theorem close_some {N : Int} {h : Int → Int} {n : Nat} {rows : List Rw} (hr : ∀ r ∈ rows, Rok n r) (h0 : 0 < N) (hk : ∀ r ∈ rows, Kp N h r) : ∃ K, close n rows = some K ∧ Wf n K ∧ SatE N h K n := by
  obtain ⟨W, S⟩ := sat_rows hr hk
  exact sat_closeFrom h0 _ _ (fun m hm => mem_zrng.mp hm) W S
/-! what is closed -/
def Dz (n : Nat) (K : List AL) : Prop := ∀ (a : Int), 0 ≤ a → a < n → get K a a = some zE
theorem dz_of {n : Nat} {K : List AL} (W : Wf n K) (h : bad n K = false) : Dz n K := by
  intro a h1 h2
  obtain ⟨e, h3, h4⟩ := W.di a h1 h2
  unfold bad at h
  rw [List.any_eq_false] at h
  have := h a (mem_zrng.mpr ⟨h1, h2⟩)
  rw [h3] at this
  simp only [Option.getD_some, Bool.not_eq_true, gtE_le] at this
  rw [h3, LeE.anti this h4]
/-- more is told -/
def Mor (n : Nat) (K K' : List AL) : Prop := ∀ (a b : Int) (e : En), 0 ≤ a → a < n → get K a b = some e → ∃ e', get K' a b = some e' ∧ LeE e e'
theorem Mor.refl {n : Nat} {K : List AL} : Mor n K K := fun a b e _ _ h => ⟨e, h, LeE.refl e⟩
theorem Mor.trans {n : Nat} {K K' K'' : List AL} (x : Mor n K K') (y : Mor n K' K'') : Mor n K K'' := fun a b e h1 h2 h => by
  obtain ⟨e', h3, h4⟩ := x a b e h1 h2 h
  obtain ⟨e'', h5, h6⟩ := y a b e' h1 h2 h3
  exact ⟨e'', h5, h4.trans h6⟩
theorem Mor.put {n : Nat} {K : List AL} {f b : Int} {new : En} (W : Wf n K) (hf : 0 ≤ f ∧ f < n) : Mor n K (put1 K f b new) := by
  intro a c e h1 h2 h
  rw [get_put1 hf.1 (by rw [W.len]; omega) h1]
  split
  · rename_i q
    obtain ⟨q1, q2⟩ := q
    subst q1 q2
    rw [h]
    exact ⟨_, rfl, le_maxL _ _⟩
  · exact ⟨e, h, LeE.refl e⟩
theorem mor_rowStep {n : Nat} {mid f : Int} {K : List AL} (hm : 0 ≤ mid ∧ mid < n) (hf : 0 ≤ f ∧ f < n) (W : Wf n K) : Wf n (rowStep mid K f) ∧ Mor n K (rowStep mid K f) :=
  rowStep_ind hm hf W Mor.refl fun K' head b e W' M hh he => M.trans (Mor.put W' hf)
theorem mor_phase {n : Nat} {mid : Int} {K : List AL} (hm : 0 ≤ mid ∧ mid < n) (W : Wf n K) : Wf n (phase n mid K) ∧ Mor n K (phase n mid K) :=
  foldl_ind (P := fun K' => Wf n K' ∧ Mor n K K') _ K ⟨W, Mor.refl⟩ fun K' f hf ⟨W', M⟩ => let ⟨a, b⟩ := mor_rowStep hm (mem_zrng.mp hf) W'; ⟨a, M.trans b⟩
theorem Dz.back {n : Nat} {K K' : List AL} (W : Wf n K) (M : Mor n K K') (D : Dz n K') : Dz n K := by
  intro a h1 h2
  obtain ⟨e, h3, h4⟩ := W.di a h1 h2
  obtain ⟨e', h5, h6⟩ := M a a e h1 h2 h3
  rw [D a h1 h2] at h5
  cases h5
  rw [h3, LeE.anti h6 h4]
/-- the gets of a row step: f is not mid -/
def omx (o : Option En) (x : En) : En := maxE (o.getD x) x
theorem omx_idem (o : Option En) (x : En) : omx (some (omx o x)) x = omx o x := by
  unfold omx
  simp only [Option.getD_some]
  cases o with
  | none => simp [maxE_self]
  | some y =>
    simp only [Option.getD_some]
    rcases maxE_or y x with h | h
    · rw [h, h]
    · rw [h, maxE_self]
theorem inner_get {n : Nat} {mid f : Int} {head : En} (hm : 0 ≤ mid ∧ mid < n) (hf : 0 ≤ f ∧ f < n) (hne : mid ≠ f) : ∀ (bs : List Int) (K : List AL), Wf n K → (∀ b ∈ bs, (get K mid b).isSome = true) →
    ∀ (a c : Int), 0 ≤ a → get (inner mid f head bs K) a c = if a = f ∧ c ∈ bs then some (omx (get K f c) (addE head ((get K mid c).getD zE))) else get K a c := by
  intro bs
  induction bs with
  | nil => intro K W _ a c ha; simp [inner]
  | cons b bs ih =>
    intro K W hb a c ha
    have h1 := hb b (by simp)
    have hb' := W.ky mid b hm.1 hm.2 h1
    have hl : f.toNat < K.length := by rw [W.len]; omega
    unfold inner
    have gm : ∀ c, get (put1 K f b (addE head ((get K mid b).getD zE))) mid c = get K mid c := fun c => by rw [get_put1 hf.1 hl hm.1, if_neg (fun z => hne z.1)]
    rw [ih _ (W.put hf hb') (fun d hd => by rw [gm]; exact hb d (by simp [hd])) a c ha, gm]
    have gf : ∀ (a c : Int), 0 ≤ a → get (put1 K f b (addE head ((get K mid b).getD zE))) a c = if a = f ∧ c = b then some (omx (get K f b) (addE head ((get K mid b).getD zE))) else get K a c := fun a c ha => get_put1 hf.1 hl ha
    rw [gf f c hf.1, gf a c ha]
    by_cases e1 : a = f
    · by_cases e2 : c ∈ bs
      · rw [if_pos (⟨e1, e2⟩ : a = f ∧ c ∈ bs), if_pos (⟨e1, List.mem_cons_of_mem _ e2⟩ : a = f ∧ c ∈ b :: bs)]
        by_cases e3 : c = b
        · subst e3
          rw [if_pos ⟨rfl, rfl⟩, omx_idem]
        · rw [if_neg (fun z => e3 z.2)]
      · rw [if_neg (fun z => e2 z.2)]
        by_cases e3 : c = b
        · subst e3
          rw [if_pos ⟨e1, rfl⟩, if_pos ⟨e1, by simp⟩]
        · rw [if_neg (fun z => e3 z.2), if_neg (fun z => by simp [e2, e3] at z)]
    · rw [if_neg (fun z => e1 z.1), if_neg (fun z => e1 z.1), if_neg (fun z => e1 z.1)]
/-- .. where it is mid, and nothing is told of it -/
theorem inner_same {n : Nat} {mid : Int} (hm : 0 ≤ mid ∧ mid < n) : ∀ (bs : List Int) (K : List AL), Wf n K → (∀ b ∈ bs, (get K mid b).isSome = true) → ∀ (a c : Int), 0 ≤ a → get (inner mid mid zE bs K) a c = get K a c := by
  intro bs
  induction bs with
  | nil => intro K W _ a c ha; rfl
  | cons b bs ih =>
    intro K W hb a c ha
    have h1 := hb b (by simp)
    obtain ⟨e, he⟩ := Option.isSome_iff_exists.mp h1
    have hl : mid.toNat < K.length := by rw [W.len]; omega
    have gf : ∀ (a c : Int), 0 ≤ a → get (put1 K mid b (addE zE ((get K mid b).getD zE))) a c = get K a c := fun a c ha => by
      rw [get_put1 hm.1 hl ha]
      split
      · rename_i q
        obtain ⟨q1, q2⟩ := q
        subst q1 q2
        rw [he]
        simp [z_addE, maxE_self]
      · rfl
    unfold inner
    rw [ih _ (W.put hm (W.ky mid b hm.1 hm.2 h1)) (fun d hd => by rw [gf _ _ hm.1]; exact hb d (by simp [hd])) a c ha, gf a c ha]
/-- sums of options -/
def oad : Option En → Option En → Option En
  | some x, some y => some (addE x y)
  | _, _ => none
def omax : Option En → Option En → Option En
  | some x, some y => some (maxE x y)
  | some x, none => some x
  | none, y => y
theorem rowStep_get {n : Nat} {mid f : Int} {K : List AL} (hm : 0 ≤ mid ∧ mid < n) (hf : 0 ≤ f ∧ f < n) (W : Wf n K) (hd : get K mid mid = some zE) : ∀ (a c : Int), 0 ≤ a → a < n → get (rowStep mid K f) a c = if a = f ∧ f ≠ mid then omax (get K f c) (oad (get K f mid) (get K mid c)) else get K a c := by
  intro a c ha ha2
  unfold rowStep
  split
  · rename_i q
    rw [q]
    split
    · rename_i e
      rw [e.1]
      cases get K f c <;> rfl
    · rfl
  · rename_i head q
    by_cases hfm : f = mid
    · subst hfm
      rw [hd] at q
      cases q
      rw [inner_same hm _ K W (fun b hb => keys_get.mp hb) a c ha, if_neg (fun z => z.2 rfl)]
    · rw [inner_get hm hf (Ne.symm hfm) _ K W (fun b hb => keys_get.mp hb) a c ha, q]
      by_cases e1 : a = f
      · rw [if_pos (⟨e1, hfm⟩ : a = f ∧ f ≠ mid)]
        by_cases e2 : c ∈ keys K mid
        · rw [if_pos ⟨e1, e2⟩]
          obtain ⟨e, he⟩ := Option.isSome_iff_exists.mp (keys_get.mp e2)
          rw [he]
          cases get K f c with
          | none => simp [oad, omax, omx, maxE_self]
          | some x => simp [oad, omax, omx]
        · rw [if_neg (fun z => e2 z.2)]
          have : get K mid c = none := by
            cases q2 : get K mid c with
            | none => rfl
            | some x => exact absurd (keys_get.mpr (by rw [q2]; rfl)) e2
          rw [this, e1]
          cases get K f c <;> rfl
      · rw [if_neg (fun z => e1 z.1), if_neg (fun z => e1 z.1)]
/-- all rows -/
theorem phase_get {n : Nat} {mid : Int} {K : List AL} (hm : 0 ≤ mid ∧ mid < n) (W : Wf n K) (hd : get K mid mid = some zE) : ∀ (fs : List Int), (∀ f ∈ fs, 0 ≤ f ∧ f < n) → fs.Nodup → ∀ K1, Wf n K1 → (∀ c, get K1 mid c = get K mid c) → (∀ f ∈ fs, ∀ c, get K1 f c = get K f c) →
    ∀ (a c : Int), 0 ≤ a → a < n → get (fs.foldl (rowStep mid) K1) a c = if a ∈ fs ∧ a ≠ mid then omax (get K a c) (oad (get K a mid) (get K mid c)) else get K1 a c := by
  intro fs
  induction fs with
  | nil => intro _ _ K1 _ _ _ a c _ _; simp
  | cons f fs ih =>
    intro hf hnd K1 W1 hmid hrest a c ha ha2
    obtain ⟨nd1, nd2⟩ := List.nodup_cons.mp hnd
    have hf1 := hf f (by simp)
    have g := rowStep_get hm hf1 W1 (by rw [hmid, hd])
    have Wn := (mor_rowStep hm hf1 W1).1
    have hmid' : ∀ c, get (rowStep mid K1 f) mid c = get K mid c := fun c => by
      rw [g mid c hm.1 hm.2, if_neg (fun z => z.2 z.1.symm), hmid]
    have hrest' : ∀ f' ∈ fs, ∀ c, get (rowStep mid K1 f) f' c = get K f' c := fun f' h' c => by
      have h'' := hf f' (by simp [h'])
      have hne : f' ≠ f := fun e => nd1 (e ▸ h')
      rw [g f' c h''.1 h''.2, if_neg (fun z => hne z.1), hrest f' (by simp [h'])]
    rw [List.foldl_cons, ih (fun x hx => hf x (by simp [hx])) nd2 _ Wn hmid' hrest' a c ha ha2, g a c ha ha2]
    by_cases e1 : a = f
    · subst e1
      rw [if_neg (fun z => nd1 z.1)]
      by_cases e2 : a = mid
      · rw [if_neg (fun z => z.2 e2), if_neg (fun z => z.2 e2)]
      · rw [if_pos ⟨rfl, e2⟩, if_pos ⟨by simp, e2⟩, hrest a (by simp), hrest a (by simp), hmid]
    · by_cases e2 : a ∈ fs
      · by_cases e3 : a = mid
        · rw [if_neg (fun z => z.2 e3), if_neg (fun z => e1 z.1), if_neg (fun z => z.2 e3)]
        · rw [if_pos ⟨e2, e3⟩, if_pos ⟨by simp [e2], e3⟩]
      · rw [if_neg (fun z => e2 z.1), if_neg (fun z => e1 z.1), if_neg (fun z => by simp [e1, e2] at z)]
theorem zrng_nodup {n : Nat} : (zrng n).Nodup := by
  unfold zrng
  rw [List.Nodup, List.pairwise_map]
  refine List.Pairwise.imp ?_ (List.pairwise_lt_range (n := n))
  intro a b h e
  omega
theorem phase_all {n : Nat} {mid : Int} {K : List AL} (hm : 0 ≤ mid ∧ mid < n) (W : Wf n K) (hd : get K mid mid = some zE) : ∀ (a c : Int), 0 ≤ a → a < n → get (phase n mid K) a c = omax (get K a c) (oad (get K a mid) (get K mid c)) := by
  intro a c ha ha2
  unfold phase
  rw [phase_get hm W hd (zrng n) (fun f hf => mem_zrng.mp hf) zrng_nodup K W (fun _ => rfl) (fun _ _ _ => rfl) a c ha ha2]
  by_cases e : a = mid
  · rw [if_neg (fun z => z.2 e), e, hd]
    cases q : get K mid c with
    | none => rfl
    | some x => simp [oad, omax, z_addE, maxE_self]
  · rw [if_pos ⟨mem_zrng.mpr ⟨ha, ha2⟩, e⟩]
/-- closed at m: a way by m tells nothing more -/
def Clo (n : Nat) (K : List AL) (m : Int) : Prop := ∀ (a b : Int) (x y : En), 0 ≤ a → a < n → get K a m = some x → get K m b = some y → ∃ z, get K a b = some z ∧ LeE (addE x y) z
theorem omax_l {x : En} {o : Option En} : ∃ z, omax (some x) o = some z ∧ LeE x z := by
  cases o with
  | none => exact ⟨x, rfl, LeE.refl x⟩
  | some y => exact ⟨_, rfl, le_maxL x y⟩
theorem omax_r {x : En} {o : Option En} : ∃ z, omax o (some x) = some z ∧ LeE x z := by
  cases o with
  | none => exact ⟨x, rfl, LeE.refl x⟩
  | some y => exact ⟨_, rfl, le_maxR y x⟩
/-- either part of a maximum -/
theorem omax_or {o p : Option En} {z : En} (h : omax o p = some z) : o = some z ∨ p = some z := by
  cases o with
  | none => exact .inr h
  | some x =>
    cases p with
    | none => exact .inl h
    | some y =>
      have h' : maxE x y = z := Option.some.inj h
      rcases maxE_or x y with q | q
      · left; rw [← h', q]
      · right; rw [← h', q]
theorem oad_some {o p : Option En} {z : En} (h : oad o p = some z) : ∃ x y, o = some x ∧ p = some y ∧ z = addE x y := by
  cases o with
  | none => cases h
  | some x =>
    cases p with
    | none => cases h
    | some y => exact ⟨x, y, rfl, rfl, (Option.some.inj h).symm⟩
theorem clo_phase {n : Nat} {mid : Int} {K : List AL} (hm : 0 ≤ mid ∧ mid < n) (W : Wf n K) (hd : get K mid mid = some zE) : Clo n (phase n mid K) mid ∧ ∀ (m : Int), 0 ≤ m → m < n → Clo n K m → Clo n (phase n mid K) m := by
  have g := phase_all hm W hd
  -- the row and the column of mid stay
  have col : ∀ (a : Int), 0 ≤ a → a < (n : Int) → get (phase n mid K) a mid = get K a mid := fun a h1 h2 => by
    rw [g a mid h1 h2, hd]
    cases get K a mid with
    | none => rfl
    | some x => simp [oad, omax, addE_z, maxE_self]
  have rw' : ∀ c, get (phase n mid K) mid c = get K mid c := fun c => by
    rw [g mid c hm.1 hm.2, hd]
    cases get K mid c with
    | none => rfl
    | some x => simp [oad, omax, z_addE, maxE_self]
  constructor
  · intro a b x y h1 h2 hx hy
    rw [col a h1 h2] at hx
    rw [rw'] at hy
    rw [g a b h1 h2, hx, hy]
    exact omax_r
  · intro m hm1 hm2 C a b x y h1 h2 hx hy
    rw [g a m h1 h2] at hx
    rw [g m b hm1 hm2] at hy
    rw [g a b h1 h2]
    -- through mid
    have via : ∀ p q, get K a mid = some p → get K mid b = some q → ∀ z, LeE z (addE p q) → ∃ z', omax (get K a b) (oad (get K a mid) (get K mid b)) = some z' ∧ LeE z z' := by
      intro p q hp hq z hz
      rw [hp, hq]
      obtain ⟨z', e1, e2⟩ := omax_r (x := addE p q) (o := get K a b)
      exact ⟨z', e1, hz.trans e2⟩
    rcases omax_or hx with hx | hx
    · rcases omax_or hy with hy | hy
      · obtain ⟨z, e1, e2⟩ := C a b x y h1 h2 hx hy
        rw [e1]
        obtain ⟨z', e3, e4⟩ := omax_l (x := z) (o := oad (get K a mid) (get K mid b))
        exact ⟨z', e3, e2.trans e4⟩
      · obtain ⟨p, q, hp, hq, e⟩ := oad_some hy
        subst e
        obtain ⟨z, e1, e2⟩ := C a mid x p h1 h2 hx hp
        refine via z q e1 hq _ ?_
        rw [← addE_assoc]
        exact e2.add (LeE.refl q)
    · obtain ⟨p, q, hp, hq, e⟩ := oad_some hx
      subst e
      rcases omax_or hy with hy | hy
      · obtain ⟨z, e1, e2⟩ := C mid b q y hm.1 hm.2 hq hy
        refine via p z hp e1 _ ?_
        rw [addE_assoc]
        exact (LeE.refl p).add e2
      · obtain ⟨p', q', hp', hq', e⟩ := oad_some hy
        subst e
        obtain ⟨z, e1, e2⟩ := C mid mid q p' hm.1 hm.2 hq hp'
        rw [hd] at e1
        cases e1
        refine via p q' hp hq' _ ?_
        rw [addE_assoc, ← addE_assoc q]
        have := (e2.add (LeE.refl q'))
        rw [z_addE] at this
        exact (LeE.refl p).add this
theorem clo_closeFrom {n : Nat} : ∀ (ms : List Int) (K K' : List AL), (∀ m ∈ ms, 0 ≤ m ∧ m < n) → Wf n K → closeFrom n ms K = some K' → (ms = [] → Dz n K) → Wf n K' ∧ Mor n K K' ∧ Dz n K' ∧ (∀ (m : Int), 0 ≤ m → m < n → (Clo n K m ∨ m ∈ ms) → Clo n K' m)
  | [], K, K', _, W, e, d => by
    cases e
    exact ⟨W, Mor.refl, d rfl, fun m _ _ h => h.elim id (fun z => absurd z (by simp))⟩
  | m :: ms, K, K', hm, W, e, _ => by
    unfold closeFrom at e
    split at e
    · cases e
    · rename_i hb
      have hm1 := hm m (by simp)
      obtain ⟨W1, M1⟩ := mor_phase hm1 W
      have D1 := dz_of W1 (by simpa using hb)
      have D0 := D1.back W M1
      obtain ⟨c1, c2⟩ := clo_phase hm1 W (D0 m hm1.1 hm1.2)
      obtain ⟨W2, M2, D2, C2⟩ := clo_closeFrom ms _ K' (fun x hx => hm x (by simp [hx])) W1 e (fun _ => D1)
      refine ⟨W2, M1.trans M2, D2, fun x hx1 hx2 h => C2 x hx1 hx2 ?_⟩
      rcases h with h | h
      · exact .inl (c2 x hx1 hx2 h)
      · rcases List.mem_cons.mp h with q | q
        · rw [q]; exact .inl c1
        · exact .inr q
/-- what a closing tells -/
structure Closed (n : Nat) (rows : List Rw) (K : List AL) : Prop where
  wf : Wf n K
  dz : Dz n K
  cl : ∀ (m : Int), 0 ≤ m → m < n → Clo n K m
  rw_ : ∀ r ∈ rows, ∃ e, get K r.1 r.2.1 = some e ∧ LeE (r.2.2.1, r.2.2.2) e
theorem rows_in {n : Nat} : ∀ (rows : List Rw) (K : List AL), (∀ r ∈ rows, Rok n r) → Wf n K → Wf n (rows.foldl addRow K) ∧ Mor n K (rows.foldl addRow K) ∧ ∀ r ∈ rows, ∃ e, get (rows.foldl addRow K) r.1 r.2.1 = some e ∧ LeE (r.2.2.1, r.2.2.2) e
  | [], K, _, W => ⟨W, Mor.refl, by simp⟩
  | r :: rs, K, hr, W => by
    obtain ⟨h1, h2, h3, h4⟩ := hr r (by simp)
    obtain ⟨W', M', R'⟩ := rows_in rs (addRow K r) (fun x hx => hr x (by simp [hx])) (W.put ⟨h1, h2⟩ ⟨h3, h4⟩)
    refine ⟨W', Mor.trans (Mor.put W ⟨h1, h2⟩) M', fun x hx => ?_⟩
    rcases List.mem_cons.mp hx with q | q
    · subst q
      have : get (addRow K x) x.1 x.2.1 = some (omx (get K x.1 x.2.1) (x.2.2.1, x.2.2.2)) := by
        unfold addRow
        rw [get_put1 h1 (by rw [W.len]; omega) h1, if_pos ⟨rfl, rfl⟩]
        rfl
      obtain ⟨e, e1, e2⟩ := M' x.1 x.2.1 _ h1 h2 this
      exact ⟨e, e1, (le_maxR _ _).trans e2⟩
    · exact R' x q
theorem close_closed {n : Nat} {rows : List Rw} {K : List AL} (hn : 0 < n) (hr : ∀ r ∈ rows, Rok n r) (e : close n rows = some K) : Closed n rows K := by
  obtain ⟨W, M, R⟩ := rows_in rows (K0 n) hr wf_K0.1
  obtain ⟨W2, M2, D2, C2⟩ := clo_closeFrom (zrng n) _ K (fun m hm => mem_zrng.mp hm) W e (fun h => by
    exfalso
    have : (0 : Int) ∈ zrng n := mem_zrng.mpr ⟨Int.le_refl _, by omega⟩
    rw [h] at this
    cases this)
  refine ⟨W2, D2, fun m h1 h2 => C2 m h1 h2 (.inr (mem_zrng.mpr ⟨h1, h2⟩)), fun r hr' => ?_⟩
  obtain ⟨e', h1, h2⟩ := R r hr'
  obtain ⟨g1, g2, g3, g4⟩ := hr r hr'
  obtain ⟨e'', h3, h4⟩ := M2 _ _ _ g1 g2 h1
  exact ⟨e'', h3, h2.trans h4⟩
/-- a way tells no more than what is closed -/
theorem Closed.way {n : Nat} {rows : List Rw} {K : List AL} (C : Closed n rows K) (hr : ∀ r ∈ rows, Rok n r) {a b x : Int} {k : Nat} {l : List Nat} (W : RWay rows a b x k l) (hb : 0 ≤ b ∧ b < n) : ∃ e, get K a b = some e ∧ LeE (x, decide (0 < k)) e := by
  induction W with
  | nil a => exact ⟨zE, C.dz a hb.1 hb.2, LeE.refl zE⟩
  | @cons a m c w y s k i l h W ih =>
    obtain ⟨e, h1, h2⟩ := ih hb
    have hm := List.mem_of_getElem? h
    obtain ⟨g1, g2, g3, g4⟩ := hr _ hm
    obtain ⟨e', h3, h4⟩ := C.rw_ _ hm
    obtain ⟨z, h5, h6⟩ := C.cl m g3 g4 a c e' e g1 g2 h3 h1
    refine ⟨z, h5, LeE.trans ?_ h6⟩
    have := h4.add h2
    refine LeE.trans ?_ this
    unfold LeE addE
    right
    refine ⟨rfl, ?_⟩
    simp only [decide_eq_true_eq, Bool.or_eq_true]
    intro q
    split at q
    · rename_i hs; exact .inl hs
    · exact .inr (by omega)
theorem shuts_mem {n : Nat} {rows : List Rw} (hr : ∀ r ∈ rows, Rok n r) {a x : Int} {k : Nat} {l : List Nat} (W : RWay rows a a x k l) (hl : 0 < l.length) : 0 ≤ a ∧ a < n := by
  cases W with
  | nil => simp at hl
  | cons h W =>
    obtain ⟨g1, g2, g3, g4⟩ := hr _ (List.mem_of_getElem? h)
    exact ⟨g1, g2⟩
/-- both tell alike -/
theorem canBe_close {n : Nat} {rows : List Rw} (hn : 0 < n) (hn7 : n ≤ 7) (hr : ∀ r ∈ rows, Rok n r) : canBe n rows = (close n rows).isSome := by
  cases e : canBe n rows with
  | true =>
    obtain ⟨h, _, _, hk⟩ := canBe_mom hr e
    obtain ⟨K, h1, _⟩ := close_some hr (by omega) hk
    rw [h1]; rfl
  | false =>
    obtain ⟨l, _, ⟨a, x, k, W, h1, h2⟩, _⟩ := canBe_not hr hn7 e
    cases q : close n rows with
    | none => rfl
    | some K =>
      exfalso
      have C := close_closed hn hr q
      have ha := shuts_mem hr W h2
      obtain ⟨e', h3, h4⟩ := C.way hr W ha
      rw [C.dz a ha.1 ha.2] at h3
      cases h3
      unfold LeE zE at h4
      simp only [decide_eq_true_eq] at h4
      rcases h1 with h1 | ⟨h1, h5⟩
      · rcases h4 with h4 | h4 <;> omega
      · rcases h4 with h4 | h4
        · omega
        · have := h4.2 h5
          cases this
/-! no key twice -/
theorem pt_keys {l : AL} {b : Int} {e : En} (h : (l.map (·.1)).Nodup) : ((pt l b e).map (·.1)).Nodup := by
  unfold pt
  split
  · have : (l.map fun p => if p.1 = b then (p.1, e) else p).map (·.1) = l.map (·.1) := by
      rw [List.map_map]
      refine List.map_congr_left fun p _ => ?_
      simp only [Function.comp]
      split <;> rfl
    rw [this]; exact h
  · rename_i hn
    rw [List.map_append]
    refine List.nodup_append.mpr ⟨h, by simp, fun x hx y hy q => ?_⟩
    simp at hy
    subst hy
    subst q
    apply hn
    rw [lk_any]
    exact lk_mem.mp hx
def NdK (K : List AL) : Prop := ∀ a : Int, 0 ≤ a → ((row K a).map (·.1)).Nodup
theorem NdK.put {n : Nat} {K : List AL} {f b : Int} {new : En} (N : NdK K) (W : Wf n K) (hf : 0 ≤ f ∧ f < n) : NdK (put1 K f b new) := by
  intro a ha
  unfold put1
  rw [row_set hf.1 (by rw [W.len]; omega) ha]
  split
  · exact pt_keys (N f hf.1)
  · exact N a ha
theorem nodup_le : ∀ {n : Nat} {l : List Int}, l.Nodup → (∀ x ∈ l, 0 ≤ x ∧ x < (n : Int)) → l.length ≤ n := by
  intro n
  induction n with
  | zero =>
    intro l _ hl
    cases l with
    | nil => simp
    | cons x l => have := hl x (by simp); omega
  | succ n ih =>
    intro l hd hl
    by_cases hm : (n : Int) ∈ l
    · have h1 : (l.erase n).length = l.length - 1 := List.length_erase_of_mem hm
      have h2 := ih (l := l.erase n) (hd.erase _) (fun x hx => by
        have hx1 := hl x (List.mem_of_mem_erase hx)
        have hx2 : x ≠ n := fun e => by
          rw [e] at hx
          exact hd.not_mem_erase hx
        omega)
      omega
    · have := ih hd (fun x hx => by
        have h1 := hl x hx
        have h2 : x ≠ n := fun e => hm (e ▸ hx)
        omega)
      omega
theorem row_le {n : Nat} {K : List AL} (N : NdK K) (W : Wf n K) {a : Int} (ha : 0 ≤ a ∧ a < n) : (row K a).length ≤ n := by
  have := nodup_le (n := n) (N a ha.1) (fun x hx => W.ky a x ha.1 ha.2 (lk_mem.mp hx))
  simpa using this
/-- of good shape -/
def Gd (n : Nat) (K : List AL) : Prop := Wf n K ∧ NdK K
theorem gd_K0 {n : Nat} : Gd n (K0 n) := by
  refine ⟨wf_K0.1, fun a ha => ?_⟩
  unfold row K0 zrng
  rw [List.getD_eq_getElem?_getD]
  cases e : (List.map (fun a => [(a, zE)]) (List.map (fun (i : Nat) => (i : Int)) (List.range n)))[a.toNat]? with
  | none => simp
  | some r =>
    rw [List.getElem?_map] at e
    cases e2 : (List.map (fun (i : Nat) => (i : Int)) (List.range n))[a.toNat]? with
    | none => rw [e2] at e; cases e
    | some x => rw [e2] at e; cases e; simp
theorem Gd.put {n : Nat} {K : List AL} {f b : Int} {new : En} (G : Gd n K) (hf : 0 ≤ f ∧ f < n) (hb : 0 ≤ b ∧ b < n) : Gd n (put1 K f b new) := ⟨G.1.put hf hb, G.2.put G.1 hf⟩
theorem Gd.row {n : Nat} {K : List AL} {f mid : Int} (G : Gd n K) (hm : 0 ≤ mid ∧ mid < n) (hf : 0 ≤ f ∧ f < n) : Gd n (rowStep mid K f) :=
  rowStep_ind hm hf G.1 G.2 fun K' head b e W' N' hh he => N'.put W' hf
theorem Gd.phase {n : Nat} {K : List AL} {mid : Int} (G : Gd n K) (hm : 0 ≤ mid ∧ mid < n) : Gd n (phase n mid K) :=
  foldl_ind (P := fun K => Gd n K) _ K G fun K' f hf G' => G'.row hm (mem_zrng.mp hf)
end BFN

end
section
namespace G
open PySem PySem.Spec L2
/-! ### the semantic text, applied -/
@[simp] theorem eVar_0 {a : D} {r : Env} {s : Sto} : eVar 0 (some a :: r) s = .ok a s := rfl
@[simp] theorem eVar_s {a : Option D} {r : Env} {s : Sto} {i : Nat} : eVar (i + 1) (a :: r) s = eVar i r s := rfl
@[simp] theorem eC_ap {d : D} {env : Env} {s : Sto} : eC d env s = .ok d s := rfl
@[simp] theorem eOp_ap {g : G2} {a b : E} {env : Env} {s : Sto} : eOp g a b env s = (a env s).bind fun x s1 => (b env s1).bind fun y s2 => Res.of s2 (g s2 x y) := rfl
@[simp] theorem eUn_ap {g} {a : E} {env : Env} {s : Sto} : eUn g a env s = (a env s).bind fun x s1 => Res.of s1 (g s1 x) := rfl
@[simp] theorem eFn_ap {g : GL} {a : EL} {env : Env} {s : Sto} : eFn g a env s = (a env s).bind fun xs s1 => Res.of s1 (g s1 xs) := rfl
@[simp] theorem lNil_ap {env : Env} {s : Sto} : lNil env s = .ok [] s := rfl
@[simp] theorem lCons_ap {a : E} {r : EL} {env : Env} {s : Sto} : lCons a r env s = (a env s).bind fun x s1 => (r env s1).bind fun xs s2 => .ok (x :: xs) s2 := rfl
@[simp] theorem asB_bl {b : Bool} : asB (.bl b) = some b := rfl
@[simp] theorem bVal_ap {a : E} {env : Env} {s : Sto} : bVal a env s = (a env s).bind fun x s1 => Res.of s1 (asB x) := rfl
@[simp] theorem bNot_ap {a : EB} {env : Env} {s : Sto} : bNot a env s = (a env s).bind fun x s1 => .ok (!x) s1 := rfl
@[simp] theorem bYes_ap {env : Env} {s : Sto} : bYes env s = .ok true s := rfl
@[simp] theorem bAnd_ap {a b : EB} {env : Env} {s : Sto} : bAnd a b env s = (a env s).bind fun x s1 => if x = true then b env s1 else .ok false s1 := rfl
@[simp] theorem bOr_ap {a b : EB} {env : Env} {s : Sto} : bOr a b env s = (a env s).bind fun x s1 => if x = true then .ok true s1 else b env s1 := rfl
def andK (x : D) (r : Res D) (s : Sto) : Res D := match x with
  | .bl b => if b = true then r else .ok (.bl false) s
  | _ => .bad
def orK (x : D) (r : Res D) (s : Sto) : Res D := match x with
  | .bl b => if b = true then .ok (.bl true) s else r
  | _ => .bad
@[simp] theorem andK_bl {b : Bool} {r : Res D} {s : Sto} : andK (.bl b) r s = if b = true then r else .ok (.bl false) s := rfl
@[simp] theorem orK_bl {b : Bool} {r : Res D} {s : Sto} : orK (.bl b) r s = if b = true then .ok (.bl true) s else r := rfl
@[simp] theorem eAnd_ap {a b : E} {env : Env} {s : Sto} : eAnd a b env s = (a env s).bind fun x s1 => andK x (b env s1) s1 := by
  unfold eAnd
  congr 1
  funext x s1
  cases x with
  | bl c => cases c <;> rfl
  | _ => rfl
@[simp] theorem eOr_ap {a b : E} {env : Env} {s : Sto} : eOr a b env s = (a env s).bind fun x s1 => orK x (b env s1) s1 := by
  unfold eOr
  congr 1
  funext x s1
  cases x with
  | bl c => cases c <;> rfl
  | _ => rfl
def notK (x : D) (s : Sto) : Res D := match x with
  | .bl c => .ok (.bl (!c)) s
  | _ => .bad
@[simp] theorem notK_bl {c : Bool} {s : Sto} : notK (.bl c) s = .ok (.bl (!c)) s := rfl
@[simp] theorem eNot_ap {a : E} {env : Env} {s : Sto} : eNot a env s = (a env s).bind fun x s1 => notK x s1 := rfl
@[simp] theorem eNotT_ap {a : E} {env : Env} {s : Sto} : eNotT a env s = (a env s).bind fun x s1 => Res.of s1 ((truD x).map fun b => .bl (!b)) := rfl
@[simp] theorem eIf_ap {c : EB} {a b : E} {env : Env} {s : Sto} : eIf c a b env s = (c env s).bind fun x s1 => if x = true then a env s1 else b env s1 := rfl
@[simp] theorem eTup_ap {a : EL} {env : Env} {s : Sto} : eTup a env s = (a env s).bind fun xs s1 => .ok (.tup xs) s1 := rfl
@[simp] theorem eLst_ap {a : EL} {env : Env} {s : Sto} : eLst a env s = (a env s).bind fun xs s1 => .ok (.lst xs) s1 := rfl
def chK (g' : G2) (z y : D) (c : Sto → Res D) (s : Sto) : Res D := match z with
  | .bl b => if b = true then (c s).bind fun w s4 => Res.of s4 (g' s4 y w) else .ok (.bl false) s
  | _ => .bad
@[simp] theorem chK_bl {g' : G2} {b : Bool} {y : D} {c : Sto → Res D} {s : Sto} : chK g' (.bl b) y c s = if b = true then (c s).bind fun w s4 => Res.of s4 (g' s4 y w) else .ok (.bl false) s := rfl
@[simp] theorem eChain_ap {g g' : G2} {a b c : E} {env : Env} {s : Sto} : eChain g g' a b c env s = (a env s).bind fun x s1 => (b env s1).bind fun y s2 => (Res.of s2 (g s2 x y)).bind fun z s3 => chK g' z y (c env) s3 := by
  unfold eChain
  congr 1
  funext x s1
  congr 1
  funext y s2
  congr 1
  funext z s3
  cases z with
  | bl b => cases b <;> rfl
  | _ => rfl
@[simp] theorem eCall_ap {F : Fun1} {a : EL} {env : Env} {s : Sto} : eCall F a env s = (a env s).bind F := rfl
@[simp] theorem eLc_ap {own : List Nat} {p : Pat} {it : EL} {t : EB} {f : E} {env : Env} {s : Sto} : eLc own p it t f env s = (it env s).bind fun ds s1 => (lcL p t f (wipeE env own) ds s1).bind fun ys s2 => .ok (.lst ys) s2 := rfl
@[simp] theorem iSeq_ap {fa : E} {env : Env} {s : Sto} : iSeq fa env s = (fa env s).bind fun d s1 => Res.of s1 (seqOf d) := rfl
@[simp] theorem iOf_ap {g : List D → Option (List D)} {gl : EL} {env : Env} {s : Sto} : iOf g gl env s = (gl env s).bind fun ds s1 => Res.of s1 (g ds) := rfl
@[simp] theorem eLstR_ap {g : List D → Option (List D)} {gl : EL} {env : Env} {s : Sto} : eLstR g gl env s = (gl env s).bind fun ds s1 => (Res.of s1 (g ds)).bind fun l s2 => .ok (.lst l) s2 := rfl
@[simp] theorem eSl_ap {fa : E} {lo hi : EO} {env : Env} {s : Sto} : eSl fa lo hi env s = (fa env s).bind fun x s1 => (lo env s1).bind fun l s2 => (hi env s2).bind fun h s3 => Res.of s3 (gSl s3 x l h) := rfl
@[simp] theorem oNone_ap {env : Env} {s : Sto} : oNone env s = .ok none s := rfl
@[simp] theorem oSome_ap {f : E} {env : Env} {s : Sto} : oSome f env s = (f env s).bind fun d s1 => Res.of s1 ((asI d).map some) := rfl
@[simp] theorem asI_int {i : Int} : asI (.int i) = some i := rfl
@[simp] theorem seqOf_tup {l : List D} : seqOf (.tup l) = some l := rfl
@[simp] theorem seqOf_lst {l : List D} : seqOf (.lst l) = some l := rfl
@[simp] theorem gR1_int {n : Int} : gR1 [.int n] = (if -100000 ≤ n ∧ n ≤ 100000 then some (rngD 0 n.toNat) else none) := rfl
/-! statements -/
@[simp] theorem sSeq_ap {g h : SM} {env : Env} {s : Sto} : sSeq g h env s = (g env s).seq h := rfl
@[simp] theorem sNx_ap {env : Env} {s : Sto} : sNx env s = .ok .nx env s := rfl
@[simp] theorem sBk_ap {env : Env} {s : Sto} : sBk env s = .ok .bk env s := rfl
@[simp] theorem sCt_ap {env : Env} {s : Sto} : sCt env s = .ok .ct env s := rfl
@[simp] theorem sRet_ap {f : E} {env : Env} {s : Sto} : sRet f env s = (f env s).st env fun d s1 => .ok (.rt d) env s1 := rfl
@[simp] theorem sRetN_ap {env : Env} {s : Sto} : sRetN env s = .ok (.rt .non) env s := rfl
@[simp] theorem sDrop_ap {f : E} {env : Env} {s : Sto} : sDrop f env s = (f env s).st env fun _ s1 => .ok .nx env s1 := rfl
@[simp] theorem sIf_ap {c : EB} {a b : SM} {env : Env} {s : Sto} : sIf c a b env s = (c env s).st env fun x s1 => if x = true then a env s1 else b env s1 := rfl
@[simp] theorem sSet_ap {i : Nat} {f : E} {env : Env} {s : Sto} : sSet i f env s = (f env s).st env fun d s1 => .ok .nx (env.set i (some d)) s1 := rfl
@[simp] theorem sPar_ap {is : List Nat} {g : EL} {env : Env} {s : Sto} : sPar is g env s = (g env s).st env fun ds s1 => .ok .nx (setsE is ds env) s1 := rfl
@[simp] theorem sFor_ap {p : Pat} {it : EL} {body : SM} {env : Env} {s : Sto} : sFor p it body env s = (it env s).st env fun ds s1 => forL p body ds env s1 := rfl
@[simp] theorem sWhile_ap {c : EB} {body : SM} {fu : Env → Nat} {env : Env} {s : Sto} : sWhile c body fu env s = whileN c body (fu env) env s := rfl
@[simp] theorem sRaise_ap {x : Str} {env : Env} {s : Sto} : sRaise x env s = .err { cls := x } env s := rfl
@[simp] theorem setsE_nil {env : Env} : setsE [] [] env = env := rfl
@[simp] theorem setsE_cons {i : Nat} {is : List Nat} {d : D} {ds : List D} {env : Env} : setsE (i :: is) (d :: ds) env = setsE is ds (env.set i (some d)) := rfl
@[simp] theorem wipeE_nil {env : Env} : wipeE env [] = env := rfl
@[simp] theorem wipeE_cons {env : Env} {v : Nat} {vs : List Nat} : wipeE env (v :: vs) = (wipeE env vs).set v none := rfl
def celK (i : Nat) (d : D) (env : Env) (s : Sto) : SRes := match d with
  | .lst l => if pureL l = true then .ok .nx (env.set i (some (.cel s.cel.length))) (newCel s l) else .bad
  | _ => .bad
@[simp] theorem sCel_ap {i : Nat} {f : E} {env : Env} {s : Sto} : sCel i f env s = (f env s).st env fun d s1 => celK i d env s1 := rfl
@[simp] theorem celK_lst {i : Nat} {l : List D} {env : Env} {s : Sto} : celK i (.lst l) env s = if pureL l = true then .ok .nx (env.set i (some (.cel s.cel.length))) (newCel s l) else .bad := rfl
def asgK (o : Option (Env × Sto)) : SRes := match o with
  | some p => .ok .nx p.1 p.2
  | none => .bad
@[simp] theorem asgK_some {p : Env × Sto} : asgK (some p) = .ok .nx p.1 p.2 := rfl
@[simp] theorem sAsg_ap {g : GT} {f : E} {env : Env} {s : Sto} : sAsg g f env s = (f env s).st env fun d s1 => asgK (g d env s1) := by
  unfold sAsg
  congr 1
@[simp] theorem gtName_ap {i : Nat} {d : D} {env : Env} {s : Sto} : gtName i d env s = some (env.set i (some d), s) := rfl
@[simp] theorem gtTup_ap {gs : List GT} {ds : List D} {env : Env} {s : Sto} : gtTup gs (.tup ds) env s = gtTups gs ds env s := rfl
@[simp] theorem gtTups_nil {env : Env} {s : Sto} : gtTups [] [] env s = some (env, s) := rfl
@[simp] theorem gtTups_cons {g : GT} {gs : List GT} {d : D} {ds : List D} {env : Env} {s : Sto} : gtTups (g :: gs) (d :: ds) env s = (g d env s).bind fun p => gtTups gs ds p.1 p.2 := rfl
/-! defs -/
@[simp] theorem startE_ap {nl : Nat} {ds : List D} : startE nl ds = ds.map some ++ List.replicate (nl - ds.length) none := rfl
def finF (r : SRes) : Res D := match r with
  | .ok (.rt d) _ s' => .ok d s'
  | .ok .nx _ s' => .ok .non s'
  | .err x _ s' => .err x s'
  | _ => .bad
@[simp] theorem finF_rt {d : D} {env : Env} {s : Sto} : finF (.ok (.rt d) env s) = .ok d s := rfl
@[simp] theorem finF_nx {env : Env} {s : Sto} : finF (.ok .nx env s) = .ok .non s := rfl
@[simp] theorem finF_err {x : Xn} {env : Env} {s : Sto} : finF (.err x env s) = .err x s := rfl
theorem defF_ap {nl : Nat} {g : SM} {ds : List D} {s : Sto} : defF nl g ds s = finF (g (startE nl ds) s) := rfl
def finC (n : Nat) (r : SRes) : Res D := match r with
  | .ok (.rt d) _ s' => .ok (fz n s'.cel d) (cut n s')
  | .ok .nx _ s' => .ok .non (cut n s')
  | .err x _ s' => .err x (cut n s')
  | _ => .bad
@[simp] theorem finC_rt {n : Nat} {d : D} {env : Env} {s : Sto} : finC n (.ok (.rt d) env s) = .ok (fz n s.cel d) (cut n s) := rfl
@[simp] theorem finC_nx {n : Nat} {env : Env} {s : Sto} : finC n (.ok .nx env s) = .ok .non (cut n s) := rfl
theorem defC_ap {nl : Nat} {g : SM} {ds : List D} {s : Sto} : defC nl g ds s = finC s.cel.length (g (startE nl ds) s) := rfl
/-! operations -/
@[simp] theorem dAdd_ii {s : Sto} {i j : Int} : dAdd s (.int i) (.int j) = some (.int (i + j)) := rfl
@[simp] theorem dSub_ii {s : Sto} {i j : Int} : dSub s (.int i) (.int j) = some (.int (i - j)) := rfl
@[simp] theorem dLt_ii {s : Sto} {i j : Int} : dLt s (.int i) (.int j) = some (.bl (decide (i < j))) := rfl
@[simp] theorem dLe_ii {s : Sto} {i j : Int} : dLe s (.int i) (.int j) = some (.bl (decide (i ≤ j))) := rfl
@[simp] theorem dGt_ii {s : Sto} {i j : Int} : dGt s (.int i) (.int j) = some (.bl (decide (j < i))) := rfl
@[simp] theorem dGe_ii {s : Sto} {i j : Int} : dGe s (.int i) (.int j) = some (.bl (decide (j ≤ i))) := rfl
@[simp] theorem dNeg_i {s : Sto} {i : Int} : dNeg s (.int i) = some (.int (-i)) := rfl
theorem dMul_ii {s : Sto} {i j : Int} (h1 : -(2 ^ 64) < i ∧ i < 2 ^ 64) (h2 : -(2 ^ 64) < j ∧ j < 2 ^ 64) : dMul s (.int i) (.int j) = some (.int (i * j)) := by
  unfold dMul
  simp only [smallI, h1, h2, and_self, decide_true, Bool.and_self, Bool.or_true, Bool.true_or, if_true]
theorem dMod_ii {s : Sto} {i j : Int} (h : 0 < j) : dMod s (.int i) (.int j) = some (.int (i % j)) := by
  unfold dMod dI2c
  simp only [h, decide_true, if_true]
theorem dFdiv_ii {s : Sto} {i j : Int} (h : 0 < j) (h2 : j < 1073741824) : dFdiv s (.int i) (.int j) = some (.int (i / j)) := by
  unfold dFdiv dI2c
  simp only [h, h2, decide_true, Bool.true_or, Bool.and_self, if_true]
theorem log_lt {n : Nat} (h : n < 2 ^ 64) : n.log2 < 9000 := by
  by_cases h0 : n = 0
  · subst h0; decide
  · have := (Nat.log2_lt h0).mpr h
    omega
theorem dFdiv_wide {s : Sto} {i j : Int} (h : 0 < j) (h2 : j < 2 ^ 64) : dFdiv s (.int i) (.int j) = some (.int (i / j)) := by
  unfold dFdiv dI2c
  have : wideI j = true := decide_eq_true (log_lt (by omega))
  simp only [h, this, decide_true, Bool.or_true, Bool.and_self, if_true]
@[simp] theorem gInt_i {s : Sto} {i : Int} : gInt s [.int i] = some (.int i) := rfl
@[simp] theorem gAbs_i {s : Sto} {i : Int} : gAbs s [.int i] = some (.int (if i < 0 then -i else i)) := rfl
@[simp] theorem gMax2_ii {s : Sto} {i j : Int} : gMax2 s [.int i, .int j] = some (.int (if j > i then j else i)) := rfl
@[simp] theorem gMin2_ii {s : Sto} {i j : Int} : gMin2 s [.int i, .int j] = some (.int (if j < i then j else i)) := rfl
@[simp] theorem gLen_tup {s : Sto} {l : List D} : gLen s [.tup l] = some (.int l.length) := rfl
@[simp] theorem gLen_lst {s : Sto} {l : List D} : gLen s [.lst l] = some (.int l.length) := rfl
@[simp] theorem gLen_scr {s : Sto} {l : List Int} : gLen s [.scr l] = some (.int l.length) := rfl
@[simp] theorem gTup_lst {s : Sto} {l : List D} : gTup s [.lst l] = some (.tup l) := rfl
@[simp] theorem gTup_tup {s : Sto} {l : List D} : gTup s [.tup l] = some (.tup l) := rfl
@[simp] theorem gLst_tup {s : Sto} {l : List D} : gLst s [.tup l] = some (.lst l) := rfl
@[simp] theorem gIx_tup {s : Sto} {l : List D} {k : Int} : gIx s (.tup l) (.int k) = atI l k := rfl
@[simp] theorem gIx_lst {s : Sto} {l : List D} {k : Int} : gIx s (.lst l) (.int k) = atI l k := rfl
@[simp] theorem gIx_scr {s : Sto} {l : List Int} {k : Int} : gIx s (.scr l) (.int k) = (atI l k).map .int := rfl
theorem gIx_cel {s : Sto} {n : Nat} {l : List D} {k : Int} (h : s.cel[n]? = some l) : gIx s (.cel n) (.int k) = atI l k := by
  unfold gIx asL
  simp [h]
@[simp] theorem atI_0 {α : Type} {d : α} {l : List α} : atI (d :: l) 0 = some d := by unfold atI ixN; simp
@[simp] theorem atI_1 {α : Type} {d e : α} {l : List α} : atI (d :: e :: l) 1 = some e := by
  unfold atI ixN
  simp
  rw [if_pos (by omega)]
  rfl
@[simp] theorem atI_2 {α : Type} {d e f : α} {l : List α} : atI (d :: e :: f :: l) 2 = some f := by
  unfold atI ixN
  simp
  rw [if_pos (by omega)]
  rfl
@[simp] theorem atI_3 {α : Type} {d e f g : α} {l : List α} : atI (d :: e :: f :: g :: l) 3 = some g := by
  unfold atI ixN
  simp
  rw [if_pos (by omega)]
  rfl
theorem atI_nat {α : Type} {l : List α} {k : Int} (h0 : 0 ≤ k) (h : k < l.length) : atI l k = l[k.toNat]? := by
  unfold atI ixN
  simp [h0, h]
@[simp] theorem deref_int {s : Sto} {i : Int} : deref s (.int i) = .int i := rfl
@[simp] theorem deref_bl {s : Sto} {i : Bool} : deref s (.bl i) = .bl i := rfl
@[simp] theorem deref_str {s : Sto} {i : Str} : deref s (.str i) = .str i := rfl
@[simp] theorem deref_non {s : Sto} : deref s .non = .non := rfl
@[simp] theorem deref_tup {s : Sto} {l : List D} : deref s (.tup l) = .tup l := rfl
@[simp] theorem deref_lst {s : Sto} {l : List D} : deref s (.lst l) = .lst l := rfl
@[simp] theorem okD_int {i : Int} : okD (.int i) = true := by simp [okD, isData, depthD]
@[simp] theorem okD_bl {i : Bool} : okD (.bl i) = true := by simp [okD, isData, depthD]
@[simp] theorem okD_non : okD .non = true := by simp [okD, isData, depthD]
@[simp] theorem okD_tup0 : okD (.tup []) = true := by simp [okD, isData, isDataL, depthD, depthL]
@[simp] theorem okD_lst0 : okD (.lst []) = true := by simp [okD, isData, isDataL, depthD, depthL]
@[simp] theorem deq_ii {i j : Int} : deq (.int i) (.int j) = (i == j) := by simp [deq]
@[simp] theorem deq_ss {i j : Str} : deq (.str i) (.str j) = (i == j) := by simp [deq]
@[simp] theorem deq_bb {i j : Bool} : deq (.bl i) (.bl j) = (i == j) := by simp [deq]
@[simp] theorem deq_tt {i j : List D} : deq (.tup i) (.tup j) = deqL i j := by simp [deq]
@[simp] theorem deq_ll {i j : List D} : deq (.lst i) (.lst j) = deqL i j := by simp [deq]
@[simp] theorem deqL_nn : deqL [] [] = true := by simp [deqL]
@[simp] theorem deqL_cc {x y : D} {i j : List D} : deqL (x :: i) (y :: j) = (deq x y && deqL i j) := by simp [deqL]
@[simp] theorem deqL_cn {x : D} {i : List D} : deqL (x :: i) [] = false := by simp [deqL]
@[simp] theorem deqL_nc {x : D} {i : List D} : deqL [] (x :: i) = false := by simp [deqL]
/-! walks -/
theorem lc_map {f : E} {g : D → D} {env : Env} {i : Nat} {s : Sto} : ∀ {ds : List D}, (∀ d ∈ ds, f (env.set i (some d)) s = .ok (g d) s) → lcL (.nm i) bYes f env ds s = .ok (ds.map g) s
  | [], _ => rfl
  | d :: ds, h => by
    have h1 := h d (List.mem_cons_self ..)
    have h2 := lc_map (ds := ds) fun z hz => h z (List.mem_cons_of_mem _ hz)
    unfold lcL
    simp only [Pat.bind, bYes_ap, h1, h2, Res.bind_ok, List.map_cons]
theorem lc_filter {f : E} {t : EB} {g : D → Bool} {env : Env} {i : Nat} {s : Sto} (hf : ∀ d, f (env.set i (some d)) s = .ok d s) : ∀ {ds : List D}, (∀ d ∈ ds, t (env.set i (some d)) s = .ok (g d) s) → lcL (.nm i) t f env ds s = .ok (ds.filter g) s
  | [], _ => rfl
  | d :: ds, h => by
    have h1 := h d (List.mem_cons_self ..)
    have h2 := lc_filter hf (ds := ds) fun z hz => h z (List.mem_cons_of_mem _ hz)
    unfold lcL
    simp only [Pat.bind, h1]
    cases e : g d
    · rw [List.filter_cons_of_neg (by simp [e])]
      exact h2
    · rw [List.filter_cons_of_pos e]
      simp only [hf, h2, Res.bind_ok]
theorem lc_inv {f : E} {env : Env} {i : Nat} {I : Sto → Prop} {P : D → Prop} : ∀ {ds : List D} {s : Sto}, I s → (∀ d ∈ ds, ∀ s, I s → ∃ y s', f (env.set i (some d)) s = .ok y s' ∧ I s' ∧ P y) → ∃ ys s', lcL (.nm i) bYes f env ds s = .ok ys s' ∧ I s' ∧ ys.length = ds.length ∧ ∀ y ∈ ys, P y
  | [], s, hI, _ => ⟨[], s, rfl, hI, rfl, fun _ z => nomatch z⟩
  | d :: ds, s, hI, h => by
    obtain ⟨y, s1, e1, i1, p1⟩ := h d (List.mem_cons_self ..) s hI
    obtain ⟨ys, s2, e2, i2, l2, p2⟩ := lc_inv (ds := ds) i1 fun z hz => h z (List.mem_cons_of_mem _ hz)
    refine ⟨y :: ys, s2, ?_, i2, by simp [l2], fun z hz => ?_⟩
    · unfold lcL
      simp only [Pat.bind, bYes_ap, e1, e2, Res.bind_ok]
    · rcases List.mem_cons.mp hz with e | hz
      · rw [e]; exact p1
      · exact p2 z hz
theorem for_inv {body : SM} {i : Nat} {I : Env → Sto → Prop} : ∀ {ds : List D} {env : Env} {s : Sto}, I env s → (∀ d ∈ ds, ∀ env s, I env s → ∃ env' s', (body (env.set i (some d)) s = .ok .nx env' s' ∨ body (env.set i (some d)) s = .ok .ct env' s') ∧ I env' s') → ∃ env' s', forL (.nm i) body ds env s = .ok .nx env' s' ∧ I env' s'
  | [], env, s, hI, _ => ⟨env, s, rfl, hI⟩
  | d :: ds, env, s, hI, h => by
    obtain ⟨env1, s1, e1, i1⟩ := h d (List.mem_cons_self ..) env s hI
    obtain ⟨env2, s2, e2, i2⟩ := for_inv (ds := ds) i1 fun z hz => h z (List.mem_cons_of_mem _ hz)
    refine ⟨env2, s2, ?_, i2⟩
    unfold forL
    rcases e1 with e1 | e1 <;> simp only [Pat.bind, e1, e2]
/-- a counted walk: what holds at the start of each turn -/
theorem for_invN {body : SM} {i : Nat} {I : Nat → Env → Sto → Prop} : ∀ {ds : List D} {k : Nat} {env : Env} {s : Sto}, I k env s → (∀ j d, ds[j]? = some d → ∀ env s, I (k + j) env s → ∃ env' s', (body (env.set i (some d)) s = .ok .nx env' s' ∨ body (env.set i (some d)) s = .ok .ct env' s') ∧ I (k + j + 1) env' s') → ∃ env' s', forL (.nm i) body ds env s = .ok .nx env' s' ∧ I (k + ds.length) env' s'
  | [], k, env, s, hI, _ => ⟨env, s, rfl, hI⟩
  | d :: ds, k, env, s, hI, h => by
    obtain ⟨env1, s1, e1, i1⟩ := h 0 d rfl env s hI
    obtain ⟨env2, s2, e2, i2⟩ := for_invN (ds := ds) (k := k + 1) i1 fun j z hz env s hi => by
      have := h (j + 1) z hz env s (by rw [show k + (j + 1) = k + 1 + j by omega]; exact hi)
      rw [show k + 1 + j + 1 = k + (j + 1) + 1 by omega]
      exact this
    refine ⟨env2, s2, ?_, by rw [show k + (d :: ds).length = k + 1 + ds.length by simp; omega]; exact i2⟩
    unfold forL
    rcases e1 with e1 | e1 <;> simp only [Pat.bind, e1, e2]
theorem rngD_len0 (lo : Int) (n : Nat) : (rngD lo n).length = n := by unfold rngD; rw [List.length_map, List.length_range]
theorem rngD_0 {n : Nat} {d : D} (h : d ∈ rngD 0 n) : ∃ i : Nat, i < n ∧ d = .int i := by
  unfold rngD at h
  obtain ⟨i, hi, e⟩ := List.mem_map.mp h
  exact ⟨i, List.mem_range.mp hi, by rw [← e]; simp⟩
@[simp] theorem asBools_map {α : Type} {g : α → Bool} {l : List α} : asBools (l.map fun x => .bl (g x)) = some (l.map g) := by
  induction l with
  | nil => rfl
  | cons x l ih => simp only [List.map_cons, asBools, ih]; rfl
theorem gAll_map {s : Sto} {g : D → Bool} {l : List D} : gAll s [.lst (l.map fun x => .bl (g x))] = some (.bl (l.all g)) := by
  unfold gAll
  simp only [asBools_map, Option.map_some, List.all_map]
  rfl
/-! ### the jar -/
def Jar (n : Nat) (s : Sto) : Prop := ∃ a b : Int, s.cel[n]? = some [.int a, .int b] ∧ 0 ≤ a ∧ 0 ≤ b ∧ b < 2147483648
structure Jr (n : Nat) (s s' : Sto) : Prop where
  jar : Jar n s'
  len : s'.cel.length = s.cel.length
  oth : ∀ i, i ≠ n → s'.cel[i]? = s.cel[i]?
  obj : s'.obj = s.obj
theorem Jr.refl {n : Nat} {s : Sto} (h : Jar n s) : Jr n s s := ⟨h, rfl, fun _ _ => rfl, rfl⟩
theorem Jr.trans {n : Nat} {s s1 s2 : Sto} (x : Jr n s s1) (y : Jr n s1 s2) : Jr n s s2 := ⟨y.jar, y.len.trans x.len, fun i h => (y.oth i h).trans (x.oth i h), y.obj.trans x.obj⟩
theorem cel_lt {s : Sto} {n : Nat} {l : List D} (h : s.cel[n]? = some l) : n < s.cel.length := by
  rcases Nat.lt_or_ge n s.cel.length with q | q
  · exact q
  · rw [List.getElem?_eq_none q] at h; cases h
theorem setCel_at {s : Sto} {n : Nat} {l l' : List D} (h : s.cel[n]? = some l) : (setCel s n l').cel[n]? = some l' := by
  unfold setCel
  exact List.getElem?_set_self (cel_lt h)
theorem setCel_ne {s : Sto} {n i : Nat} {l' : List D} (h : i ≠ n) : (setCel s n l').cel[i]? = s.cel[i]? := by
  unfold setCel
  exact List.getElem?_set_ne (fun z => h z.symm)
theorem setCel_len {s : Sto} {n : Nat} {l' : List D} : (setCel s n l').cel.length = s.cel.length := by
  unfold setCel
  exact List.length_set
theorem Jr.set {n : Nat} {s : Sto} {l : List D} {a b : Int} (h : s.cel[n]? = some l) (ha : 0 ≤ a) (hb : 0 ≤ b) (hb2 : b < 2147483648) : Jr n s (setCel s n [.int a, .int b]) :=
  ⟨⟨a, b, setCel_at h, ha, hb, hb2⟩, setCel_len, fun i hi => setCel_ne hi, rfl⟩
def subK2 (d : D) (env : Env) (o : D) (r : Res D) : Option (Env × Sto) := match r with
  | .ok i s2 => (putCel s2 o i d).map fun s3 => (env, s3)
  | _ => none
def subK (d : D) (env : Env) (r : Res D) (fi : Sto → Res D) : Option (Env × Sto) := match r with
  | .ok o s1 => subK2 d env o (fi s1)
  | _ => none
@[simp] theorem subK2_ok {d : D} {env : Env} {o i : D} {s : Sto} : subK2 d env o (.ok i s) = (putCel s o i d).map fun s3 => (env, s3) := rfl
@[simp] theorem subK_ok {d : D} {env : Env} {o : D} {fi : Sto → Res D} {s : Sto} : subK d env (.ok o s) fi = subK2 d env o (fi s) := rfl
@[simp] theorem gtSub_ap {fo fi : E} {d : D} {env : Env} {s : Sto} : gtSub fo fi d env s = subK d env (fo env s) (fi env) := by
  unfold gtSub subK subK2
  rfl
theorem putCel_0 {s : Sto} {n : Nat} {x y : D} {d : D} (h : s.cel[n]? = some [x, y]) (hd : d.pure = true) : putCel s (.cel n) (.int 0) d = some (setCel s n [d, y]) := by
  unfold putCel
  simp [h, ixN, hd]
theorem putCel_1 {s : Sto} {n : Nat} {x y : D} {d : D} (h : s.cel[n]? = some [x, y]) (hd : d.pure = true) : putCel s (.cel n) (.int 1) d = some (setCel s n [x, d]) := by
  unfold putCel
  simp [h, ixN, hd]
end G

end
section
namespace G
open PySem PySem.Spec L2
theorem pureL_cons0 {d : D} {l : List D} : pureL (d :: l) = (d.pure && pureL l) := by rw [pureL]
theorem Jr.cel {n i : Nat} {s s' : Sto} {l : List D} (j : Jr n s s') (h : i ≠ n) (e : s.cel[i]? = some l) : s'.cel[i]? = some l := (j.oth i h).trans e
/-- what a def that makes its own lists leaves -/
theorem Jr.cut {n : Nat} {s s' : Sto} (hn : n < s.cel.length) (hj : Jar n s') (hl : s.cel.length ≤ s'.cel.length) (ho : ∀ i, i < s.cel.length → i ≠ n → s'.cel[i]? = s.cel[i]?) (hb : s'.obj = s.obj) : Jr n s (cut s.cel.length s') := by
  refine ⟨?_, ?_, fun i hi => ?_, hb⟩
  · obtain ⟨a, b, h, r⟩ := hj
    exact ⟨a, b, by unfold G.cut; rw [List.getElem?_take_of_lt hn]; exact h, r⟩
  · unfold G.cut
    rw [List.length_take]
    omega
  · unfold G.cut
    rcases Nat.lt_or_ge i s.cel.length with q | q
    · rw [List.getElem?_take_of_lt q]; exact ho i q hi
    · rw [List.getElem?_eq_none q, List.getElem?_eq_none (by rw [List.length_take]; omega)]
theorem Jar.lt {n : Nat} {s : Sto} (h : Jar n s) : n < s.cel.length := let ⟨_, _, h, _⟩ := h; cel_lt h
theorem newCel_old {s : Sto} {l : List D} {i : Nat} (h : i < s.cel.length) : (newCel s l).cel[i]? = s.cel[i]? := by
  unfold newCel
  exact List.getElem?_append_left h
theorem newCel_new {s : Sto} {l : List D} : (newCel s l).cel[s.cel.length]? = some l := by
  unfold newCel
  simp
theorem newCel_len {s : Sto} {l : List D} : (newCel s l).cel.length = s.cel.length + 1 := by
  unfold newCel
  simp
theorem Jar.new {n : Nat} {s : Sto} {l : List D} (h : Jar n s) : Jar n (newCel s l) := by
  obtain ⟨a, b, e, r⟩ := h
  exact ⟨a, b, by rw [newCel_old (cel_lt e)]; exact e, r⟩
theorem Jar.setO {n m : Nat} {s : Sto} {l : List D} (h : Jar n s) (hm : n ≠ m) : Jar n (setCel s m l) := by
  obtain ⟨a, b, e, r⟩ := h
  exact ⟨a, b, by rw [setCel_ne hm]; exact e, r⟩
def methK (T : String) (g : GM) (o : D) (s1 : Sto) (gl : Sto → Res (List D)) : Res D := if tyD T o = true then (gl s1).bind fun ds s2 => resM (g s2 o ds) else .bad
@[simp] theorem eMeth_ap {T : String} {g : GM} {fo : E} {gl : EL} {env : Env} {s : Sto} : eMeth T g fo gl env s = (fo env s).bind fun o s1 => methK T g o s1 (gl env) := rfl
@[simp] theorem methK_cel {g : GM} {n : Nat} {s1 : Sto} {gl : Sto → Res (List D)} : methK "list" g (.cel n) s1 gl = (gl s1).bind fun ds s2 => resM (g s2 (.cel n) ds) := rfl
@[simp] theorem methK_str {g : GM} {n : Str} {s1 : Sto} {gl : Sto → Res (List D)} : methK "str" g (.str n) s1 gl = (gl s1).bind fun ds s2 => resM (g s2 (.str n) ds) := rfl
@[simp] theorem resM_some {p : D × Sto} : resM (some p) = .ok p.1 p.2 := rfl
def pcelK (d : D) (s1 : Sto) (r : Sto → Res (List D)) : Res (List D) := match d with
  | .lst l => if pureL l = true then (r (newCel s1 l)).bind fun ds s2 => .ok (.cel s1.cel.length :: ds) s2 else .bad
  | _ => .bad
@[simp] theorem pcelK_lst {l : List D} {s1 : Sto} {r : Sto → Res (List D)} : pcelK (.lst l) s1 r = if pureL l = true then (r (newCel s1 l)).bind fun ds s2 => .ok (.cel s1.cel.length :: ds) s2 else .bad := rfl
@[simp] theorem pNil_ap {env : Env} {s : Sto} : pNil env s = .ok [] s := rfl
@[simp] theorem pCons_ap {a : E} {r : EL} {env : Env} {s : Sto} : pCons a r env s = (a env s).bind fun x s1 => (r env s1).bind fun xs s2 => .ok (x :: xs) s2 := rfl
@[simp] theorem pCel_ap {f : E} {r : EL} {env : Env} {s : Sto} : pCel f r env s = (f env s).bind fun d s1 => pcelK d s1 (r env) := rfl
@[simp] theorem pureL_nil : pureL [] = true := by simp [pureL]
theorem append_ok {s : Sto} {n : Nat} {l : List D} {d : D} (h : s.cel[n]? = some l) (hd : d.pure = true) (hl : l.length < 16777216) : mAppend s (.cel n) [d] = some (.non, setCel s n (l ++ [d])) := by
  unfold mAppend
  simp [h, hd, hl]
theorem pureL_of {l : List D} (h : ∀ y ∈ l, y.pure = true) : pureL l = true := by
  induction l with
  | nil => rfl
  | cons d l ih => rw [pureL_cons0, h d (by simp), ih fun y hy => h y (by simp [hy])]; rfl
mutual
theorem fz_pure {n : Nat} {c : List (List D)} : ∀ (d : D), d.pure = true → fz n c d = d
  | .cel _, h => by cases h
  | .tup l, h => by unfold fz; rw [fzL_pure l (by simpa [D.pure] using h)]
  | .lst l, h => by unfold fz; rw [fzL_pure l (by simpa [D.pure] using h)]
  | .non, _ => rfl
  | .bl _, _ => rfl
  | .int _, _ => rfl
  | .str _, _ => rfl
  | .obj _, _ => rfl
  | .fn _, _ => rfl
  | .ty _, _ => rfl
  | .scr _, _ => rfl
theorem fzL_pure {n : Nat} {c : List (List D)} : ∀ (l : List D), pureL l = true → fzL n c l = l
  | [], _ => rfl
  | d :: l, h => by
    rw [pureL_cons0, Bool.and_eq_true] at h
    unfold fzL
    rw [fz_pure d h.1, fzL_pure l h.2]
end
end G

end
section
namespace G
open PySem PySem.Spec L2
theorem dAdd_ll {s : Sto} {a b : List D} (h : a.length + b.length ≤ 16777216) : dAdd s (.lst a) (.lst b) = some (.lst (a ++ b)) := by
  unfold dAdd
  simp [h]
theorem dAdd_tt {s : Sto} {a b : List D} (h : a.length + b.length ≤ 16777216) : dAdd s (.tup a) (.tup b) = some (.tup (a ++ b)) := by
  unfold dAdd
  simp [h]
theorem dEq_ii {s : Sto} {i j : Int} : dEq s (.int i) (.int j) = some (.bl (i == j)) := by simp [dEq]
theorem cutD_pre {l : List D} {k : Nat} (h : k ≤ l.length) : cutD l none (some (k : Int)) = l.take k := by
  unfold cutD
  rw [HT.sIx_none, HT.sIx_nat, List.drop_zero, Nat.min_eq_left h, Nat.sub_zero]
theorem cutD_post {l : List D} {k : Nat} (h : k < l.length) : cutD l (some ((k : Int) + 1)) none = l.drop (k + 1) := by
  unfold cutD
  rw [HT.sIx_none, show ((k : Int) + 1) = ((k + 1 : Nat) : Int) by omega, HT.sIx_nat, Nat.min_eq_left (by omega)]
  exact List.take_of_length_le (by rw [List.length_drop]; omega)
theorem cutD_mid {l : List D} {k : Nat} (h : k < l.length) : cutD l (some (k : Int)) (some ((k : Int) + 1)) = (l.drop k).take 1 := by
  unfold cutD
  rw [show ((k : Int) + 1) = ((k + 1 : Nat) : Int) by omega, HT.sIx_nat, HT.sIx_nat, Nat.min_eq_left (by omega), Nat.min_eq_left (by omega), show k + 1 - k = 1 by omega]
@[simp] theorem gSl_tup {s : Sto} {l : List D} {lo hi : Option Int} : gSl s (.tup l) lo hi = some (.tup (cutD l lo hi)) := rfl
@[simp] theorem dRev_tup {s : Sto} {l : List D} : dRev s (.tup l) = some (.tup l.reverse) := rfl
theorem dMul_t2 {s : Sto} {l : List D} (h0 : l ≠ []) (h : l.length ≤ 1000) : dMul s (.tup l) (.int 2) = some (.tup (l ++ l)) := by
  unfold dMul
  simp [h0, h]
end G

end
section
namespace G
open PySem PySem.Spec L2
/-! ### slots told one by one -/
def varK (o : Option (Option D)) (s : Sto) : Res D := match o with
  | some (some d) => .ok d s
  | _ => .bad
@[simp] theorem varK_some {d : D} {s : Sto} : varK (some (some d)) s = .ok d s := rfl
theorem eVar_k {i : Nat} {env : Env} {s : Sto} : eVar i env s = varK env[i]? s := rfl
/-- slot i holds d -/
abbrev Sl (env : Env) (i : Nat) (d : D) : Prop := env[i]? = some (some d)
theorem Sl.var {env : Env} {i : Nat} {d : D} {s : Sto} (h : Sl env i d) : eVar i env s = .ok d s := by rw [eVar_k, h]; rfl
theorem sl_ne {env : Env} {i j : Nat} {o : Option D} (h : i ≠ j) : (env.set i o)[j]? = env[j]? := List.getElem?_set_ne h
theorem sl_eq {env : Env} {i : Nat} {o : Option D} (h : i < env.length) : (env.set i o)[i]? = some o := List.getElem?_set_self h
def forK (r : SRes) (k : Env → Sto → SRes) : SRes := match r with
  | .ok .nx env s => k env s
  | .ok .ct env s => k env s
  | .ok .bk env s => .ok .nx env s
  | .ok (.rt d) env s => .ok (.rt d) env s
  | .err x env s => .err x env s
  | .bad => .bad
@[simp] theorem forK_nx {e : Env} {s : Sto} {k} : forK (.ok .nx e s) k = k e s := rfl
@[simp] theorem forK_ct {e : Env} {s : Sto} {k} : forK (.ok .ct e s) k = k e s := rfl
@[simp] theorem forK_bk {e : Env} {s : Sto} {k} : forK (.ok .bk e s) k = .ok .nx e s := rfl
@[simp] theorem forK_rt {e : Env} {s : Sto} {d : D} {k} : forK (.ok (.rt d) e s) k = .ok (.rt d) e s := rfl
@[simp] theorem forK_err {e : Env} {s : Sto} {x : Xn} {k} : forK (.err x e s) k = .err x e s := rfl
theorem forL_c {p : Pat} {body : SM} {d : D} {ds : List D} {env env1 : Env} {s : Sto} (h : p.bind d env = some env1) : forL p body (d :: ds) env s = forK (body env1 s) fun e s => forL p body ds e s := by
  conv => lhs; unfold forL
  rw [h]
  simp only
  cases body env1 s with
  | ok fl e s1 => cases fl <;> rfl
  | err x e s1 => rfl
  | bad => rfl
@[simp] theorem forL_n {p : Pat} {body : SM} {env : Env} {s : Sto} : forL p body [] env s = .ok .nx env s := rfl
@[simp] theorem bind_nm {i : Nat} {d : D} {env : Env} : Pat.bind (.nm i) d env = some (env.set i (some d)) := by simp [Pat.bind]
@[simp] theorem bind_tp2 {i j : Nat} {a b : D} {env : Env} : Pat.bind (.tp [.nm i, .nm j]) (.tup [a, b]) env = some ((env.set i (some a)).set j (some b)) := by simp [Pat.bind, Pat.binds]
@[simp] theorem bind_tp3 {i j k : Nat} {a b c : D} {env : Env} : Pat.bind (.tp [.nm i, .nm j, .nm k]) (.tup [a, b, c]) env = some (((env.set i (some a)).set j (some b)).set k (some c)) := by simp [Pat.bind, Pat.binds]
@[simp] theorem bind_tp4 {i j k l : Nat} {a b c d : D} {env : Env} : Pat.bind (.tp [.nm i, .nm j, .nm k, .nm l]) (.tup [a, b, c, d]) env = some ((((env.set i (some a)).set j (some b)).set k (some c)).set l (some d)) := by simp [Pat.bind, Pat.binds]
/-- a walk that goes on to its end: R holds with the state that is told on -/
theorem for_fold {α β : Type} {p : Pat} {body : SM} {enc : β → D} {g : α → β → α} {R : α → Env → Sto → Prop} : ∀ {l : List β} {x : α} {env : Env} {s : Sto}, R x env s →
    (∀ d ∈ l, ∀ x env s, R x env s → ∃ env1 env2 s2, p.bind (enc d) env = some env1 ∧ (body env1 s = .ok .nx env2 s2 ∨ body env1 s = .ok .ct env2 s2) ∧ R (g x d) env2 s2) → ∃ env' s', forL p body (l.map enc) env s = .ok .nx env' s' ∧ R (l.foldl g x) env' s'
  | [], x, env, s, hR, _ => ⟨env, s, rfl, hR⟩
  | d :: l, x, env, s, hR, h => by
    obtain ⟨env1, env2, s2, e1, e2, h2⟩ := h d (List.mem_cons_self ..) x env s hR
    obtain ⟨env', s', e3, h3⟩ := for_fold (l := l) h2 fun z hz => h z (List.mem_cons_of_mem _ hz)
    refine ⟨env', s', ?_, h3⟩
    rw [List.map_cons, forL_c e1]
    rcases e2 with e2 | e2 <;> rw [e2] <;> exact e3
/-- the same, the item's place told -/
theorem for_go {p : Pat} {body : SM} {R : Nat → Env → Sto → Prop} : ∀ {ds : List D} {k : Nat} {env : Env} {s : Sto}, R k env s →
    (∀ i d, ds[i]? = some d → ∀ env s, R (k + i) env s → ∃ env1 env2 s2, p.bind d env = some env1 ∧ (body env1 s = .ok .nx env2 s2 ∨ body env1 s = .ok .ct env2 s2) ∧ R (k + i + 1) env2 s2) → ∃ env' s', forL p body ds env s = .ok .nx env' s' ∧ R (k + ds.length) env' s'
  | [], k, env, s, hR, _ => ⟨env, s, rfl, hR⟩
  | d :: ds, k, env, s, hR, h => by
    obtain ⟨env1, env2, s2, e1, e2, h2⟩ := h 0 d rfl env s hR
    obtain ⟨env', s', e3, h3⟩ := for_go (ds := ds) (k := k + 1) h2 fun i z hz env s hi => by
      have := h (i + 1) z hz env s (by rw [show k + (i + 1) = k + 1 + i by omega]; exact hi)
      rw [show k + 1 + i + 1 = k + (i + 1) + 1 by omega]
      exact this
    refine ⟨env', s', ?_, by rw [show k + (d :: ds).length = k + 1 + ds.length by simp; omega]; exact h3⟩
    rw [forL_c e1]
    rcases e2 with e2 | e2 <;> rw [e2] <;> exact e3
theorem lc_mapL {α : Type} {f : E} {h g : α → D} {env : Env} {i : Nat} {s : Sto} : ∀ {l : List α}, (∀ x ∈ l, f (env.set i (some (h x))) s = .ok (g x) s) → lcL (.nm i) bYes f env (l.map h) s = .ok (l.map g) s
  | [], _ => rfl
  | x :: l, H => by
    have h1 := H x (List.mem_cons_self ..)
    have h2 := lc_mapL (l := l) fun z hz => H z (List.mem_cons_of_mem _ hz)
    simp only [List.map_cons]
    unfold lcL
    simp only [Pat.bind, bYes_ap, h1, h2, Res.bind_ok]
/-- any pattern, a test -/
theorem lc_gen {α : Type} {p : Pat} {t : EB} {f : E} {enc : α → D} {g : α → D} {c : α → Bool} {env : Env} {s : Sto} : ∀ {l : List α}, (∀ x ∈ l, ∃ env1, p.bind (enc x) env = some env1 ∧ t env1 s = .ok (c x) s ∧ (c x = true → f env1 s = .ok (g x) s)) → lcL p t f env (l.map enc) s = .ok ((l.filter c).map g) s
  | [], _ => rfl
  | x :: l, H => by
    obtain ⟨env1, h1, h2, h3⟩ := H x (List.mem_cons_self ..)
    have h4 := lc_gen (l := l) fun z hz => H z (List.mem_cons_of_mem _ hz)
    simp only [List.map_cons]
    unfold lcL
    rw [h1]
    simp only [h2]
    cases e : c x with
    | true =>
      rw [List.filter_cons_of_pos e]
      simp only [h3 e, h4, Res.bind_ok, List.map_cons]
    | false =>
      rw [List.filter_cons_of_neg (by simp [e])]
      exact h4
/-- a list made with the store told on -/
theorem lc_st {α : Type} {p : Pat} {f : E} {enc : α → D} {env : Env} {R : List D → Sto → Prop} : ∀ {l : List α} {acc : List D} {s : Sto}, R acc s → (∀ x ∈ l, ∀ acc s, R acc s → ∃ env1 y s', p.bind (enc x) env = some env1 ∧ f env1 s = .ok y s' ∧ R (acc ++ [y]) s') → ∃ ys s', lcL p bYes f env (l.map enc) s = .ok ys s' ∧ R (acc ++ ys) s'
  | [], acc, s, h, _ => ⟨[], s, rfl, by simpa using h⟩
  | x :: l, acc, s, h, H => by
    obtain ⟨env1, y, s1, h1, h2, h3⟩ := H x (List.mem_cons_self ..) acc s h
    obtain ⟨ys, s2, e1, e2⟩ := lc_st (l := l) h3 fun z hz => H z (List.mem_cons_of_mem _ hz)
    refine ⟨y :: ys, s2, ?_, by simpa using e2⟩
    simp only [List.map_cons]
    unfold lcL
    rw [h1]
    simp only [bYes_ap, h2, e1, Res.bind_ok]
theorem rngD_map (lo : Int) (n : Nat) : rngD lo n = (List.range n).map fun (i : Nat) => .int (lo + i) := rfl
theorem rng_zrng (n : Nat) : rngD 0 n = (BFN.zrng n).map .int := by
  rw [rngD_map]
  unfold BFN.zrng
  rw [List.map_map]
  refine List.map_congr_left fun i _ => ?_
  simp
end G
namespace G
open PySem PySem.Spec L2
/-! ### what holds behind a statement -/
def Wp (r : SRes) (Q : Fl → Env → Sto → Prop) : Prop := match r with
  | .ok fl e s => Q fl e s
  | _ => False
@[simp] theorem Wp_ok {fl : Fl} {e : Env} {s : Sto} {Q : Fl → Env → Sto → Prop} : Wp (.ok fl e s) Q = Q fl e s := rfl
/-- behind a turn -/
def LQ (A : Env → Sto → Prop) (Q : Fl → Env → Sto → Prop) : Fl → Env → Sto → Prop
  | .nx, e, s => A e s
  | .ct, e, s => A e s
  | .bk, e, s => Q .nx e s
  | .rt d, e, s => Q (.rt d) e s
@[simp] theorem LQ_nx {A Q e s} : LQ A Q .nx e s = A e s := rfl
@[simp] theorem LQ_ct {A Q e s} : LQ A Q .ct e s = A e s := rfl
@[simp] theorem LQ_bk {A Q e s} : LQ A Q .bk e s = Q .nx e s := rfl
@[simp] theorem LQ_rt {A Q e s} {d : D} : LQ A Q (.rt d) e s = Q (.rt d) e s := rfl
/-- ahead of another statement -/
def SQ (A : Env → Sto → Prop) (Q : Fl → Env → Sto → Prop) : Fl → Env → Sto → Prop
  | .nx, e, s => A e s
  | fl, e, s => Q fl e s
@[simp] theorem SQ_nx {A Q e s} : SQ A Q .nx e s = A e s := rfl
@[simp] theorem SQ_ct {A Q e s} : SQ A Q .ct e s = Q .ct e s := rfl
@[simp] theorem SQ_bk {A Q e s} : SQ A Q .bk e s = Q .bk e s := rfl
@[simp] theorem SQ_rt {A Q e s} {d : D} : SQ A Q (.rt d) e s = Q (.rt d) e s := rfl
theorem Wp.imp {r : SRes} {Q Q' : Fl → Env → Sto → Prop} (h : Wp r Q) (i : ∀ fl e s, Q fl e s → Q' fl e s) : Wp r Q' := by
  cases r with
  | ok fl e s => exact i fl e s h
  | err x e s => exact h
  | bad => exact h
theorem wp_seqR {r : SRes} {h : SM} {Q : Fl → Env → Sto → Prop} (q : Wp r (SQ (fun e s => Wp (h e s) Q) Q)) : Wp (r.seq h) Q := by
  cases r with
  | ok fl e s => cases fl <;> exact q
  | err x e s => exact q
  | bad => exact q
theorem wp_seq {g h : SM} {env : Env} {s : Sto} {Q : Fl → Env → Sto → Prop} (q : Wp (g env s) (SQ (fun e s => Wp (h e s) Q) Q)) : Wp (sSeq g h env s) Q := wp_seqR q
theorem wp_for {β : Type} {p : Pat} {body : SM} {enc : β → D} {l : List β} {env : Env} {s : Sto} {Q : Fl → Env → Sto → Prop} (I : List β → Env → Sto → Prop) (h0 : I l env s)
    (hs : ∀ x xs env s, x ∈ l → I (x :: xs) env s → ∃ env1, p.bind (enc x) env = some env1 ∧ Wp (body env1 s) (LQ (I xs) Q)) (he : ∀ e s', I [] e s' → Q .nx e s') : Wp (forL p body (l.map enc) env s) Q := by
  have key : ∀ (m : List β) (env : Env) (s : Sto), (∀ x ∈ m, x ∈ l) → I m env s → Wp (forL p body (m.map enc) env s) Q := by
    intro m
    induction m with
    | nil => intro env s _ h; exact he env s h
    | cons x m ih =>
      intro env s hm h
      obtain ⟨env1, e1, w⟩ := hs x m env s (hm x (by simp)) h
      rw [List.map_cons, forL_c e1]
      revert w
      cases body env1 s with
      | ok fl e s' =>
        cases fl with
        | nx => exact fun w => ih e s' (fun y hy => hm y (by simp [hy])) w
        | ct => exact fun w => ih e s' (fun y hy => hm y (by simp [hy])) w
        | bk => exact fun w => w
        | rt d => exact fun w => w
      | err x e s' => exact fun w => w
      | bad => exact fun w => w
  exact key l env s (fun _ h => h) h0
/-- any items -/
theorem wp_forD {p : Pat} {body : SM} {l : List D} {env : Env} {s : Sto} {Q : Fl → Env → Sto → Prop} (I : List D → Env → Sto → Prop) (h0 : I l env s)
    (hs : ∀ x xs env s, x ∈ l → I (x :: xs) env s → ∃ env1, p.bind x env = some env1 ∧ Wp (body env1 s) (LQ (I xs) Q)) (he : ∀ e s', I [] e s' → Q .nx e s') : Wp (forL p body l env s) Q := by
  have := wp_for (enc := id) (l := l) I h0 hs he
  rwa [List.map_id] at this
theorem wp_st {α : Type} {r : Res α} {env : Env} {k : α → Sto → SRes} {a : α} {s : Sto} {Q : Fl → Env → Sto → Prop} (e : r = .ok a s) (h : Wp (k a s) Q) : Wp (r.st env k) Q := by rw [e]; exact h
theorem of_wpF {nl : Nat} {g : SM} {ds : List D} {s s' : Sto} {d : D} (h : Wp (g (startE nl ds) s) (fun fl _ s1 => (fl = .rt d ∨ (fl = .nx ∧ d = .non)) ∧ s1 = s')) : defF nl g ds s = .ok d s' := by
  rw [defF_ap]
  revert h
  cases g (startE nl ds) s with
  | ok fl e s1 =>
    rintro ⟨h1 | ⟨h1, h2⟩, h3⟩
    · rw [h1, h3]; rfl
    · rw [h1, h2, h3]; rfl
  | err x e s1 => exact fun h => h.elim
  | bad => exact fun h => h.elim
/-- .. some result -/
theorem of_wpFE {nl : Nat} {g : SM} {ds : List D} {s : Sto} {P : D → Sto → Prop} (h : Wp (g (startE nl ds) s) (fun fl _ s1 => match fl with | .rt d => P d s1 | .nx => P .non s1 | _ => False)) : ∃ d s', defF nl g ds s = .ok d s' ∧ P d s' := by
  rw [defF_ap]
  revert h
  cases g (startE nl ds) s with
  | ok fl e s1 =>
    cases fl with
    | rt d => exact fun h => ⟨d, s1, rfl, h⟩
    | nx => exact fun h => ⟨.non, s1, rfl, h⟩
    | bk => exact fun h => h.elim
    | ct => exact fun h => h.elim
  | err x e s1 => exact fun h => h.elim
  | bad => exact fun h => h.elim
theorem of_wpC {nl : Nat} {g : SM} {ds : List D} {s : Sto} {P : D → Sto → Prop} (h : Wp (g (startE nl ds) s) (fun fl _ s1 => match fl with | .rt d => P (fz s.cel.length s1.cel d) (cut s.cel.length s1) | .nx => P .non (cut s.cel.length s1) | _ => False)) : ∃ d s', defC nl g ds s = .ok d s' ∧ P d s' := by
  rw [defC_ap]
  revert h
  cases g (startE nl ds) s with
  | ok fl e s1 =>
    cases fl with
    | rt d => exact fun h => ⟨_, _, rfl, h⟩
    | nx => exact fun h => ⟨_, _, rfl, h⟩
    | bk => exact fun h => h.elim
    | ct => exact fun h => h.elim
  | err x e s1 => exact fun h => h.elim
  | bad => exact fun h => h.elim
def rD (r : BFN.Rw) : D := .tup [.int r.1, .int r.2.1, .int r.2.2.1, .bl r.2.2.2]
theorem dMul_iR {s : Sto} {i j : Int} (h2 : -(2 ^ 64) < j ∧ j < 2 ^ 64) : dMul s (.int i) (.int j) = some (.int (i * j)) := by
  unfold dMul
  simp only [smallI, h2, and_self, decide_true, Bool.or_true, Bool.true_or, if_true]
theorem dMul_iL {s : Sto} {i j : Int} (h2 : -(2 ^ 64) < i ∧ i < 2 ^ 64) : dMul s (.int i) (.int j) = some (.int (i * j)) := by
  unfold dMul
  simp only [smallI, h2, and_self, decide_true, Bool.or_true, Bool.true_or, if_true]
theorem dEq_ii' {s : Sto} {i j : Int} : dEq s (.int i) (.int j) = some (.bl (decide (i = j))) := by
  unfold dEq
  simp
  by_cases h : i = j <;> simp [h]
theorem dNe_ii' {s : Sto} {i j : Int} : dNe s (.int i) (.int j) = some (.bl (!decide (i = j))) := by
  unfold dNe
  simp
  by_cases h : i = j <;> simp [h]
@[simp] theorem gInt_b {s : Sto} {b : Bool} : gInt s [.bl b] = some (.int (if b = true then 1 else 0)) := rfl
@[simp] theorem dIsN_n {s : Sto} : dIsN s .non .non = some (.bl true) := rfl
@[simp] theorem dIsN_i {s : Sto} {i : Int} : dIsN s (.int i) .non = some (.bl false) := rfl
@[simp] theorem dIsN_l {s : Sto} {l : List D} : dIsN s (.lst l) .non = some (.bl false) := rfl
@[simp] theorem dIsN_tu {s : Sto} {l : List D} : dIsN s (.tup l) .non = some (.bl false) := rfl
@[simp] theorem dNotN_n {s : Sto} : dNotN s .non .non = some (.bl false) := rfl
@[simp] theorem dNotN_tu {s : Sto} {l : List D} : dNotN s (.tup l) .non = some (.bl true) := rfl
@[simp] theorem dNotN_l {s : Sto} {l : List D} : dNotN s (.lst l) .non = some (.bl true) := rfl
@[simp] theorem gEnum_lst' {l : List D} : gEnum [.lst l] = some (enumD 0 l) := rfl
@[simp] theorem gEnum_tup' {l : List D} : gEnum [.tup l] = some (enumD 0 l) := rfl
theorem atI_at {α : Type} {l : List α} {k : Int} {i : Nat} {x : α} (h : k = (i : Int)) (e : l[i]? = some x) : atI l k = some x := by
  have hl := (List.getElem?_eq_some_iff.mp e).1
  rw [atI_nat (by omega) (by omega), h, Int.toNat_natCast]
  exact e
theorem rngD_ln (lo : Int) (n : Nat) : (rngD lo n).length = n := by simp [rngD]
theorem enumD_map {α : Type} (enc : α → D) : ∀ (l : List α) (k : Nat), enumD k (l.map enc) = (l.zipIdx k).map fun p => .tup [.int (p.2 : Int), enc p.1]
  | [], _ => rfl
  | x :: l, k => by
    simp only [List.map_cons, enumD, List.zipIdx_cons]
    rw [enumD_map enc l (k + 1)]
theorem forW {p : Pat} {body : SM} {d : D} {ds : List D} {env env1 : Env} {st : Sto} {Q : Fl → Env → Sto → Prop} (h : p.bind d env = some env1) (w : Wp (body env1 st) (LQ (fun e s' => Wp (forL p body ds e s') Q) Q)) : Wp (forL p body (d :: ds) env st) Q := by
  rw [forL_c h]
  revert w
  cases body env1 st with
  | ok fl e s' =>
    cases fl with
    | nx => exact fun w => w
    | ct => exact fun w => w
    | bk => exact fun w => w
    | rt d => exact fun w => w
  | err x e s' => exact fun w => w
  | bad => exact fun w => w
end G
namespace G
open PySem PySem.Spec L2
/-! ### walks over changeable lists -/
theorem chk_none {l : List D} {st : Sto} : chk (l, none) st = true := rfl
theorem chk_cel {l : List D} {n : Nat} {st : Sto} (h : st.cel[n]? = some l) : chk (l, some n) st = true := by
  unfold chk
  simp only [h]
  exact beqDL_refl l
theorem forWK {k : LK} {p : Pat} {body : SM} {d : D} {ds : List D} {env env1 : Env} {st : Sto} {Q : Fl → Env → Sto → Prop} (hc : chk k st = true) (h : p.bind d env = some env1) (w : Wp (body env1 st) (LQ (fun e s' => Wp (forLK k p body ds e s') Q) Q)) : Wp (forLK k p body (d :: ds) env st) Q := by
  unfold forLK
  rw [if_pos hc, h]
  simp only
  revert w
  cases body env1 st with
  | ok fl e s' =>
    cases fl with
    | nx => exact fun w => w
    | ct => exact fun w => w
    | bk => exact fun w => w
    | rt d => exact fun w => w
  | err x e s' => exact fun w => w
  | bad => exact fun w => w
theorem forNK {k : LK} {p : Pat} {body : SM} {env : Env} {st : Sto} {Q : Fl → Env → Sto → Prop} (hc : chk k st = true) (q : Q .nx env st) : Wp (forLK k p body [] env st) Q := by
  unfold forLK
  rw [if_pos hc]
  exact q
theorem lcK_gen {α : Type} {k : LK} {p : Pat} {t : EB} {f : E} {enc : α → D} {g : α → D} {c : α → Bool} {env : Env} {s : Sto} (hc : chk k s = true) : ∀ {l : List α}, (∀ x ∈ l, ∃ env1, p.bind (enc x) env = some env1 ∧ t env1 s = .ok (c x) s ∧ (c x = true → f env1 s = .ok (g x) s)) → lcLK k p t f env (l.map enc) s = .ok ((l.filter c).map g) s
  | [], _ => by
    unfold lcLK
    rw [List.map_nil]
    simp only
    rw [if_pos hc]
    rfl
  | x :: l, H => by
    obtain ⟨env1, h1, h2, h3⟩ := H x (List.mem_cons_self ..)
    have h4 := lcK_gen hc (l := l) fun z hz => H z (List.mem_cons_of_mem _ hz)
    simp only [List.map_cons]
    unfold lcLK
    rw [if_pos hc, h1]
    simp only [h2]
    cases e : c x with
    | true =>
      rw [List.filter_cons_of_pos e]
      simp only [h3 e, h4, Res.bind_ok, List.map_cons]
    | false =>
      rw [List.filter_cons_of_neg (by simp [e])]
      exact h4
@[simp] theorem sForK_ap {p : Pat} {it : EKL} {body : SM} {env : Env} {s : Sto} : sForK p it body env s = (it env s).st env fun k s1 => forLK k p body k.1 env s1 := rfl
@[simp] theorem iSeqK_ap {fa : E} {env : Env} {s : Sto} : iSeqK fa env s = (fa env s).bind fun d s1 => Res.of s1 (lkOf s1 d) := rfl
@[simp] theorem eLcK_ap {own : List Nat} {p : Pat} {it : EKL} {t : EB} {f : E} {env : Env} {s : Sto} : eLcK own p it t f env s = (it env s).bind fun k s1 => (lcLK k p t f (wipeE env own) k.1 s1).bind fun ys s2 => .ok (.lst ys) s2 := rfl
/-- what stood stands -/
structure Ext (s st : Sto) : Prop where
  obj : st.obj = s.obj
  len : s.cel.length ≤ st.cel.length
  cel : ∀ i, i < s.cel.length → st.cel[i]? = s.cel[i]?
theorem Ext.refl {s : Sto} : Ext s s := ⟨rfl, Nat.le_refl _, fun _ _ => rfl⟩
theorem Ext.trans {s s1 s2 : Sto} (a : Ext s s1) (b : Ext s1 s2) : Ext s s2 := ⟨b.obj.trans a.obj, Nat.le_trans a.len b.len, fun i h => (b.cel i (Nat.lt_of_lt_of_le h a.len)).trans (a.cel i h)⟩
theorem Ext.new {s st : Sto} {l : List D} (h : Ext s st) : Ext s (newCel st l) := ⟨h.obj, by rw [newCel_len]; exact Nat.le_succ_of_le h.len, fun i hi => by rw [newCel_old (Nat.lt_of_lt_of_le hi h.len)]; exact h.cel i hi⟩
theorem Ext.set {s st : Sto} {l : List D} {k : Nat} (h : Ext s st) (hk : s.cel.length ≤ k) : Ext s (setCel st k l) := ⟨h.obj, by rw [setCel_len]; exact h.len, fun i hi => by rw [setCel_ne (by omega)]; exact h.cel i hi⟩
theorem Ext.cut {s st : Sto} (h : Ext s st) : G.cut s.cel.length st = s := by
  obtain ⟨c, o⟩ := st
  obtain ⟨h1, h2, h3⟩ := h
  simp only at h1 h2 h3
  subst h1
  unfold G.cut
  simp only
  congr 1
  apply List.ext_getElem?
  intro i
  by_cases hi : i < s.cel.length
  · rw [List.getElem?_take_of_lt hi]; exact h3 i hi
  · rw [List.getElem?_eq_none (by rw [List.length_take]; omega), List.getElem?_eq_none (by omega)]
end G

end
section
namespace G
open PySem PySem.Spec L2
def kn__law_word : List Str := ["InvalidBook", "InvalidMoments", "InvalidScript"]
def hs__law_word : List (Str × Str) := [("InvalidScript", "script"), ("InvalidMoments", "moments")]
def f_is_from : Fun1 := defF 3 (sRet (eAnd (eFn gIsi (lCons (eVar 0) (lCons (eC (.ty "int")) (lNil)))) (eAnd (eNot (eFn gIsi (lCons (eVar 0) (lCons (eC (.ty "bool")) (lNil))))) (eChain dLe dLe (eVar 1) (eVar 0) (eVar 2)))))
def wc_lowest_0 : EB := bVal (eOp dNe (eVar 3) (eC (.int 0)))
def wb_lowest_0 : SM := sPar [2, 3] (lCons (eVar 3) (lCons (eOp dMod (eVar 2) (eVar 3)) (lNil)))
def f_lowest : Fun1 := defF 4 (sSeq (sPar [2, 3] (lCons (eFn gAbs (lCons (eVar 0) (lNil))) (lCons (eVar 1) (lNil)))) (sSeq (sWhile (wc_lowest_0) (wb_lowest_0) (fun env => wfuel 3 env)) (sRet (eTup (lCons (eOp dFdiv (eVar 0) (eVar 2)) (lCons (eOp dFdiv (eVar 1) (eVar 2)) (lNil)))))))
def f_plus : Fun1 := defF 2 (sRet (eCall f_lowest (lCons (eOp dAdd (eOp dMul (eOp gIx (eVar 0) (eC (.int 0))) (eOp gIx (eVar 1) (eC (.int 1)))) (eOp dMul (eOp gIx (eVar 1) (eC (.int 0))) (eOp gIx (eVar 0) (eC (.int 1))))) (lCons (eOp dMul (eOp gIx (eVar 0) (eC (.int 1))) (eOp gIx (eVar 1) (eC (.int 1)))) (lNil)))))
def f_is_less : Fun1 := defF 2 (sRet (eOp dLt (eOp dMul (eOp gIx (eVar 0) (eC (.int 0))) (eOp gIx (eVar 1) (eC (.int 1)))) (eOp dMul (eOp gIx (eVar 1) (eC (.int 0))) (eOp gIx (eVar 0) (eC (.int 1))))))
def f_is_fraction : Fun1 := defF 2 (sSeq (sIf (bOr (bNot (bVal (eFn gIsi (lCons (eVar 0) (lCons (eC (.ty "tuple")) (lNil)))))) (bOr (bVal (eOp dNe (eFn gLen (lCons (eVar 0) (lNil))) (eC (.int 2)))) (bNot (bVal (eCall f_is_from (lCons (eOp gIx (eVar 0) (eC (.int 0))) (lCons (eOp dSub (eC (.int 0)) (eVar 1)) (lCons (eVar 1) (lNil))))))))) (sRet (eC (.bl false))) (sNx)) (sRet (eAnd (eCall f_is_from (lCons (eOp gIx (eVar 0) (eC (.int 1))) (lCons (eC (.int 1)) (lCons (eVar 1) (lNil))))) (eOp dEq (eCall f_lowest (lCons (eOp gIx (eVar 0) (eC (.int 0))) (lCons (eOp gIx (eVar 0) (eC (.int 1))) (lNil)))) (eVar 0)))))
def le_is_gap_0 : E := eCall f_is_from (lCons (eVar 2) (lCons (eC (.int 0)) (lCons (eOp dSub (eOp dMul (eC (.int 2)) (eVar 0)) (eC (.int 1))) (lNil))))
def f_is_gap : Fun1 := defF 3 (sSeq (sIf (bOr (bNot (bVal (eFn gIsi (lCons (eVar 1) (lCons (eC (.ty "tuple")) (lNil)))))) (bVal (eOp dNe (eFn gLen (lCons (eVar 1) (lNil))) (eC (.int 3))))) (sRet (eC (.bl false))) (sNx)) (sSeq (sIf (bOr (bNot (bVal (eFn gAll (lCons (eLc [2] (.nm 2) (iSeq (eSl (eVar 1) (oNone) (oSome (eC (.int 2))))) (bYes) (le_is_gap_0)) (lNil))))) (bVal (eOp dEq (eOp gIx (eVar 1) (eC (.int 0))) (eOp gIx (eVar 1) (eC (.int 1)))))) (sRet (eC (.bl false))) (sNx)) (sRet (eCall f_is_from (lCons (eOp gIx (eVar 1) (eC (.int 2))) (lCons (eUn dNeg (eC (.int 1000))) (lCons (eC (.int 1000)) (lNil))))))))
def le_is_good_book_0 : E := eCall f_is_gap (lCons (eOp gIx (eVar 0) (eC (.int 0))) (lCons (eVar 1) (lNil)))
def f_is_good_book : Fun1 := defF 2 (sSeq (sIf (bOr (bNot (bVal (eFn gIsi (lCons (eVar 0) (lCons (eC (.ty "tuple")) (lNil)))))) (bOr (bVal (eOp dNe (eFn gLen (lCons (eVar 0) (lNil))) (eC (.int 2)))) (bNot (bVal (eCall f_is_from (lCons (eOp gIx (eVar 0) (eC (.int 0))) (lCons (eC (.int 1)) (lCons (eC (.int 3)) (lNil))))))))) (sRet (eC (.bl false))) (sNx)) (sSeq (sIf (bOr (bNot (bVal (eFn gIsi (lCons (eOp gIx (eVar 0) (eC (.int 1))) (lCons (eC (.ty "tuple")) (lNil)))))) (bVal (eOp dGt (eFn gLen (lCons (eOp gIx (eVar 0) (eC (.int 1))) (lNil))) (eC (.int 6))))) (sRet (eC (.bl false))) (sNx)) (sRet (eFn gAll (lCons (eLc [1] (.nm 1) (iSeq (eOp gIx (eVar 0) (eC (.int 1)))) (bYes) (le_is_good_book_0)) (lNil))))))
def f_is_step : Fun1 := defF 2 (sSeq (sIf (bOr (bNot (bVal (eFn gIsi (lCons (eVar 1) (lCons (eC (.ty "tuple")) (lNil)))))) (bOr (bVal (eOp dEq (eVar 1) (eTup (lNil)))) (bNot (bVal (eFn gIsi (lCons (eOp gIx (eVar 1) (eC (.int 0))) (lCons (eC (.ty "str")) (lNil)))))))) (sRet (eC (.bl false))) (sNx)) (sSeq (sIf (bVal (eOp dEq (eOp gIx (eVar 1) (eC (.int 0))) (eC (.str "shift")))) (sRet (eAnd (eOp dEq (eFn gLen (lCons (eVar 1) (lNil))) (eC (.int 3))) (eAnd (eCall f_is_from (lCons (eOp gIx (eVar 1) (eC (.int 1))) (lCons (eC (.int 0)) (lCons (eOp dSub (eVar 0) (eC (.int 1))) (lNil))))) (eCall f_is_from (lCons (eOp gIx (eVar 1) (eC (.int 2))) (lCons (eUn dNeg (eC (.int 1000))) (lCons (eC (.int 1000)) (lNil)))))))) (sNx)) (sRet (eAnd (eOp dIn (eOp gIx (eVar 1) (eC (.int 0))) (eTup (lCons (eC (.str "later")) (lCons (eC (.str "earlier")) (lCons (eC (.str "longer")) (lCons (eC (.str "shorter")) (lNil))))))) (eAnd (eOp dEq (eFn gLen (lCons (eVar 1) (lNil))) (eC (.int 2))) (eCall f_is_from (lCons (eOp gIx (eVar 1) (eC (.int 1))) (lCons (eC (.int 0)) (lCons (eC (.int 1000)) (lNil))))))))))
def le_is_good_script_0 : E := eCall f_is_step (lCons (eVar 0) (lCons (eVar 2) (lNil)))
def f_is_good_script : Fun1 := defF 3 (sRet (eAnd (eFn gIsi (lCons (eVar 1) (lCons (eC (.ty "tuple")) (lNil)))) (eAnd (eOp dLe (eFn gLen (lCons (eVar 1) (lNil))) (eC (.int 5))) (eFn gAll (lCons (eLc [2] (.nm 2) (iSeq (eVar 1)) (bYes) (le_is_good_script_0)) (lNil))))))
def le_are_good_moments_0 : E := eCall f_is_fraction (lCons (eVar 2) (lCons (eOp dPow (eC (.int 10)) (eC (.int 12))) (lNil)))
def f_are_good_moments : Fun1 := defF 3 (sSeq (sIf (bOr (bNot (bVal (eFn gIsi (lCons (eVar 1) (lCons (eC (.ty "tuple")) (lNil)))))) (bVal (eOp dNe (eFn gLen (lCons (eVar 1) (lNil))) (eOp dMul (eC (.int 2)) (eVar 0))))) (sRet (eC (.bl false))) (sNx)) (sRet (eFn gAll (lCons (eLc [2] (.nm 2) (iSeq (eVar 1)) (bYes) (le_are_good_moments_0)) (lNil)))))
def f_need_book : Fun1 := defF 1 (sIf (bNot (bVal (eCall f_is_good_book (lCons (eVar 0) (lNil))))) (sRaise "InvalidBook") (sNx))
def f_need_script : Fun1 := defF 2 (sIf (bNot (bVal (eCall f_is_good_script (lCons (eVar 0) (lCons (eVar 1) (lNil)))))) (sRaise "InvalidScript") (sNx))
def f_need_moments : Fun1 := defF 2 (sIf (bNot (bVal (eCall f_are_good_moments (lCons (eVar 0) (lCons (eVar 1) (lNil)))))) (sRaise "InvalidMoments") (sNx))
def f_is_kept : Fun1 := defF 2 (sRet (eNot (eCall f_is_less (lCons (eOp gIx (eVar 0) (eOp gIx (eVar 1) (eC (.int 1)))) (lCons (eCall f_plus (lCons (eOp gIx (eVar 0) (eOp gIx (eVar 1) (eC (.int 0)))) (lCons (eTup (lCons (eOp gIx (eVar 1) (eC (.int 2))) (lCons (eC (.int 1)) (lNil)))) (lNil)))) (lNil))))))
def le_keeps_0 : E := eCall f_is_kept (lCons (eVar 1) (lCons (eVar 2) (lNil)))
def f_keeps : Fun1 := defF 3 (sSeq (sDrop (eCall f_need_book (lCons (eVar 0) (lNil)))) (sSeq (sDrop (eCall f_need_moments (lCons (eOp gIx (eVar 0) (eC (.int 0))) (lCons (eVar 1) (lNil))))) (sRet (eFn gAll (lCons (eLc [2] (.nm 2) (iSeq (eOp gIx (eVar 0) (eC (.int 1)))) (bYes) (le_keeps_0)) (lNil))))))
def le_tests_of_0 : E := eTup (lCons (eOp dSub (eOp dMul (eC (.int 2)) (eVar 6)) (eC (.int 1))) (lCons (eOp dMul (eC (.int 2)) (eVar 6)) (lCons (eVar 3) (lCons (eOp dMul (eC (.int 2)) (eVar 6)) (lCons (eOp dSub (eOp dMul (eC (.int 2)) (eVar 6)) (eC (.int 1))) (lCons (eVar 3) (lNil)))))))
def le_tests_of_1 : E := eTup (lCons (eOp dAdd (eOp dMul (eC (.int 2)) (eVar 6)) (eC (.int 1))) (lCons (eOp dAdd (eOp dMul (eC (.int 2)) (eVar 6)) (eC (.int 2))) (lCons (eVar 3) (lCons (eOp dAdd (eOp dMul (eC (.int 2)) (eVar 6)) (eC (.int 1))) (lCons (eOp dAdd (eOp dMul (eC (.int 2)) (eVar 6)) (eC (.int 2))) (lCons (eOp dSub (eC (.int 0)) (eVar 3)) (lNil)))))))
def le_tests_of_2 : E := eTup (lCons (eOp dMul (eC (.int 2)) (eVar 6)) (lCons (eOp dAdd (eOp dMul (eC (.int 2)) (eVar 6)) (eC (.int 1))) (lCons (eVar 3) (lCons (eOp dAdd (eOp dMul (eC (.int 2)) (eVar 6)) (eC (.int 1))) (lCons (eOp dMul (eC (.int 2)) (eVar 6)) (lCons (eVar 3) (lNil)))))))
def le_tests_of_3 : E := eTup (lCons (eOp dAdd (eOp dMul (eC (.int 2)) (eVar 6)) (eC (.int 1))) (lCons (eOp dMul (eC (.int 2)) (eVar 6)) (lCons (eOp dSub (eC (.int 0)) (eVar 3)) (lCons (eOp dAdd (eOp dMul (eC (.int 2)) (eVar 6)) (eC (.int 1))) (lCons (eOp dMul (eC (.int 2)) (eVar 6)) (lCons (eVar 3) (lNil)))))))
def f_tests_of : Fun1 := defF 7 (sSeq (sAsg (gtTup [gtName 2, gtName 3]) (eTup (lCons (eOp gIx (eVar 1) (eC (.int 0))) (lCons (eOp gIx (eVar 1) (eUn dNeg (eC (.int 1)))) (lNil))))) (sSeq (sPar [4, 5] (lCons (eLstR gR1 (lCons (eVar 0) lNil)) (lCons (eLst (lNil)) (lNil)))) (sSeq (sIf (bVal (eOp dEq (eVar 2) (eC (.str "later")))) (sSet 5 (eLc [6] (.nm 6) (iSeq (eSl (eVar 4) (oSome (eC (.int 1))) (oNone))) (bYes) (le_tests_of_0))) (sNx)) (sSeq (sIf (bVal (eOp dEq (eVar 2) (eC (.str "earlier")))) (sSet 5 (eLc [6] (.nm 6) (iSeq (eSl (eVar 4) (oNone) (oSome (eUn dNeg (eC (.int 1)))))) (bYes) (le_tests_of_1))) (sNx)) (sSeq (sIf (bVal (eOp dEq (eVar 2) (eC (.str "longer")))) (sSet 5 (eLc [6] (.nm 6) (iSeq (eVar 4)) (bYes) (le_tests_of_2))) (sNx)) (sSeq (sIf (bVal (eOp dEq (eVar 2) (eC (.str "shorter")))) (sSet 5 (eLc [6] (.nm 6) (iSeq (eVar 4)) (bYes) (le_tests_of_3))) (sNx)) (sRet (eVar 5))))))))
def f_later_by : Fun1 := defF 2 (sRet (eCall f_plus (lCons (eVar 0) (lCons (eTup (lCons (eVar 1) (lCons (eC (.int 1)) (lNil)))) (lNil)))))
def le_shifted_0 : E := eIf (bVal (eOp dGe (eVar 3) (eOp dMul (eC (.int 2)) (eOp gIx (eVar 1) (eC (.int 1)))))) (eCallV 2 [("later_by", f_later_by)] (lCons (eVar 4) (lCons (eOp gIx (eVar 1) (eC (.int 2))) (lNil)))) (eVar 4)
def f_shifted : Fun1 := defF 5 (sRet (eFn gTup (lCons (eLc [3, 4] (.tp [(.nm 3), (.nm 4)]) (iOf gEnum (lCons (eVar 0) (lNil))) (bYes) (le_shifted_0)) (lNil))))
def f_put : Fun1 := defF 3 (sRet (eOp dAdd (eOp dAdd (eSl (eVar 0) (oNone) (oSome (eVar 1))) (eTup (lCons (eVar 2) (lNil)))) (eSl (eVar 0) (oSome (eOp dAdd (eVar 1) (eC (.int 1)))) (oNone))))
def lb_run_so_0 : SM := sSeq (sSet 6 (eCall f_is_less (lCons (eOp gIx (eVar 2) (eOp gIx (eVar 5) (eC (.int 1)))) (lCons (eCall f_later_by (lCons (eOp gIx (eVar 2) (eOp gIx (eVar 5) (eC (.int 0)))) (lCons (eOp gIx (eVar 5) (eC (.int 2))) (lNil)))) (lNil))))) (sSeq (sSet 3 (eOp dAdd (eVar 3) (eTup (lCons (eVar 6) (lNil))))) (sIf (bVal (eVar 6)) (sSet 2 (eCall f_put (lCons (eVar 2) (lCons (eOp gIx (eVar 5) (eC (.int 3))) (lCons (eCall f_later_by (lCons (eOp gIx (eVar 2) (eOp gIx (eVar 5) (eC (.int 4)))) (lCons (eOp gIx (eVar 5) (eC (.int 5))) (lNil)))) (lNil)))))) (sNx)))
def lb_run_so_1 : SM := sSeq (sIf (bVal (eOp dEq (eOp gIx (eVar 4) (eC (.int 0))) (eC (.str "shift")))) (sSet 2 (eCall f_shifted (lCons (eVar 2) (lCons (eVar 4) (lCons (eC (.fn "later_by")) (lNil)))))) (sNx)) (sFor (.nm 5) (iSeq (eCall f_tests_of (lCons (eVar 0) (lCons (eVar 4) (lNil))))) (lb_run_so_0))
def f_run_so : Fun1 := defF 7 (sSeq (sSet 3 (eTup (lNil))) (sSeq (sFor (.nm 4) (iSeq (eVar 1)) (lb_run_so_1)) (sRet (eTup (lCons (eVar 2) (lCons (eVar 3) (lNil)))))))
def f_behind : Fun1 := defF 3 (sSeq (sDrop (eCall f_need_book (lCons (eVar 0) (lNil)))) (sSeq (sDrop (eCall f_need_script (lCons (eOp gIx (eVar 0) (eC (.int 0))) (lCons (eVar 1) (lNil))))) (sSeq (sDrop (eCall f_need_moments (lCons (eOp gIx (eVar 0) (eC (.int 0))) (lCons (eVar 2) (lNil))))) (sRet (eOp gIx (eCall f_run_so (lCons (eOp gIx (eVar 0) (eC (.int 0))) (lCons (eVar 1) (lCons (eVar 2) (lNil))))) (eC (.int 0)))))))
def f_word_of : Fun1 := defF 3 (sSeq (sDrop (eCall f_need_book (lCons (eVar 0) (lNil)))) (sSeq (sDrop (eCall f_need_script (lCons (eOp gIx (eVar 0) (eC (.int 0))) (lCons (eVar 1) (lNil))))) (sSeq (sDrop (eCall f_need_moments (lCons (eOp gIx (eVar 0) (eC (.int 0))) (lCons (eVar 2) (lNil))))) (sRet (eOp gIx (eCall f_run_so (lCons (eOp gIx (eVar 0) (eC (.int 0))) (lCons (eVar 1) (lCons (eVar 2) (lNil))))) (eC (.int 1)))))))
def f__law_jar : Fun1 := defF 3 (sSeq (sSet 2 (eIf (bVal (eOp dLt (eVar 1) (eFn gLen (lCons (eVar 0) (lNil))))) (eFn gAbs (lCons (eFn gInt (lCons (eOp gIx (eVar 0) (eVar 1)) (lNil))) (lNil))) (eOp dAdd (eOp dMul (eC (.int 107)) (eVar 1)) (eC (.int 67))))) (sRet (eLst (lCons (eIf (bVal (eOp dGe (eVar 2) (eOp dPow (eC (.int 10)) (eC (.int 18))))) (eVar 2) (eC (.int 0))) (lCons (eOp dMod (eFn gInt (lCons (eOp dAdd (eOp dAdd (eOp dMod (eFn gInt (lCons (eVar 2) (lNil))) (eC (.int 2147477857))) (eOp dMul (eC (.int 40153)) (eVar 1))) (eC (.int 709))) (lNil))) (eC (.int 2147477857))) (lNil))))))
def f__law_dip : Fun1 := defF 4 (sSeq (sIf (bVal (eOp dGt (eOp gIx (eVar 0) (eC (.int 0))) (eC (.int 0)))) (sSeq (sSet 2 (eOp dMod (eFn gInt (lCons (eOp gIx (eVar 0) (eC (.int 0))) (lNil))) (eVar 1))) (sSeq (sAsg (gtSub (eVar 0) (eC (.int 0))) (eOp dFdiv (eFn gInt (lCons (eOp gIx (eVar 0) (eC (.int 0))) (lNil))) (eVar 1))) (sRet (eVar 2)))) (sNx)) (sSeq (sAsg (gtSub (eVar 0) (eC (.int 1))) (eOp dMod (eFn gInt (lCons (eOp dAdd (eOp dMul (eOp gIx (eVar 0) (eC (.int 1))) (eC (.int 47711))) (eC (.int 6007))) (lNil))) (eC (.int 2147477857)))) (sSeq (sSet 3 (eOp dMod (eOp dMul (eFn gInt (lCons (eOp gIx (eVar 0) (eC (.int 1))) (lNil))) (eOp dAdd (eOp dFdiv (eFn gInt (lCons (eOp gIx (eVar 0) (eC (.int 1))) (lNil))) (eC (.int 67))) (eC (.int 47)))) (eC (.int 2147477851)))) (sRet (eOp dMod (eFn gInt (lCons (eOp dFdiv (eFn gInt (lCons (eVar 3) (lNil))) (eC (.int 31))) (lNil))) (eVar 1))))))
def f__law_any : Fun1 := defF 2 (sRet (eOp gIx (eVar 1) (eCall f__law_dip (lCons (eVar 0) (lCons (eFn gLen (lCons (eVar 1) (lNil))) (lNil))))))
def wc__law_low_0 : EB := bVal (eOp dGt (eVar 3) (eC (.int 0)))
def wb__law_low_0 : SM := sPar [2, 3] (lCons (eVar 3) (lCons (eOp dMod (eVar 2) (eVar 3)) (lNil)))
def f__law_low : Fun1 := defF 4 (sSeq (sPar [2, 3] (lCons (eFn gAbs (lCons (eVar 0) (lNil))) (lCons (eVar 1) (lNil)))) (sSeq (sWhile (wc__law_low_0) (wb__law_low_0) (fun env => wfuel 3 env)) (sRet (eTup (lCons (eOp dFdiv (eVar 0) (eVar 2)) (lCons (eOp dFdiv (eVar 1) (eVar 2)) (lNil)))))))
def f__law_plus : Fun1 := defF 2 (sRet (eCall f__law_low (lCons (eOp dAdd (eOp dMul (eOp gIx (eVar 0) (eC (.int 0))) (eOp gIx (eVar 1) (eC (.int 1)))) (eOp dMul (eOp gIx (eVar 1) (eC (.int 0))) (eOp gIx (eVar 0) (eC (.int 1))))) (lCons (eOp dMul (eOp gIx (eVar 0) (eC (.int 1))) (eOp gIx (eVar 1) (eC (.int 1)))) (lNil)))))
def f__law_below : Fun1 := defF 2 (sRet (eOp dLt (eOp dMul (eOp gIx (eVar 0) (eC (.int 0))) (eOp gIx (eVar 1) (eC (.int 1)))) (eOp dMul (eOp gIx (eVar 1) (eC (.int 0))) (eOp gIx (eVar 0) (eC (.int 1))))))
def lb__law_moments_0 : SM := sSeq (sDrop (eMeth "list" mAppend (eVar 2) (lCons (eCall f__law_low (lCons (eVar 3) (lCons (eVar 4) (lNil)))) (lNil)))) (sSet 3 (eOp dAdd (eVar 3) (eCall f__law_any (lCons (eVar 0) (lCons (eLst (lCons (eC (.int 0)) (lCons (eC (.int 1)) (lCons (eC (.int 2)) (lCons (eC (.int 3)) (lCons (eC (.int 5)) (lCons (eC (.int 8)) (lCons (eUn dNeg (eC (.int 2))) (lNil))))))))) (lNil))))))
def f__law_moments : Fun1 := defC 6 (sSeq (sPar [2, 3, 4] (pCel (eLst (lNil)) (pCons (eOp dSub (eCall f__law_dip (lCons (eVar 0) (lCons (eC (.int 5)) (lNil)))) (eC (.int 2))) (pCons (eCall f__law_any (lCons (eVar 0) (lCons (eLst (lCons (eC (.int 1)) (lCons (eC (.int 1)) (lCons (eC (.int 2)) (lCons (eC (.int 3)) (lNil)))))) (lNil)))) (pNil))))) (sSeq (sFor (.nm 5) (iOf gR1 (lCons (eOp dMul (eC (.int 2)) (eVar 1)) (lNil))) (lb__law_moments_0)) (sRet (eFn gTup (lCons (eVar 2) (lNil))))))
def f__law_gap : Fun1 := defF 7 (sSeq (sSet 3 (eCall f__law_dip (lCons (eVar 0) (lCons (eOp dMul (eC (.int 2)) (eVar 1)) (lNil))))) (sSeq (sSet 4 (eOp dMod (eOp dAdd (eOp dAdd (eVar 3) (eC (.int 1))) (eCall f__law_dip (lCons (eVar 0) (lCons (eOp dSub (eOp dMul (eC (.int 2)) (eVar 1)) (eC (.int 1))) (lNil))))) (eOp dMul (eC (.int 2)) (eVar 1)))) (sSeq (sSet 5 (eCall f__law_plus (lCons (eOp gIx (eVar 2) (eVar 4)) (lCons (eTup (lCons (eUn dNeg (eOp gIx (eOp gIx (eVar 2) (eVar 3)) (eC (.int 0)))) (lCons (eOp gIx (eOp gIx (eVar 2) (eVar 3)) (eC (.int 1))) (lNil)))) (lNil))))) (sSeq (sSet 6 (eOp dSub (eOp dFdiv (eOp gIx (eVar 5) (eC (.int 0))) (eOp gIx (eVar 5) (eC (.int 1)))) (eCall f__law_any (lCons (eVar 0) (lCons (eLst (lCons (eC (.int 0)) (lCons (eC (.int 0)) (lCons (eC (.int 1)) (lCons (eC (.int 3)) (lNil)))))) (lNil)))))) (sRet (eTup (lCons (eVar 3) (lCons (eVar 4) (lCons (eIf (bVal (eOp dGt (eCall f__law_dip (lCons (eVar 0) (lCons (eC (.int 8)) (lNil)))) (eC (.int 0)))) (eVar 6) (eOp dSub (eCall f__law_dip (lCons (eVar 0) (lCons (eC (.int 9)) (lNil)))) (eC (.int 4)))) (lNil))))))))))
def le__law_book_0 : E := eCall f__law_gap (lCons (eVar 0) (lCons (eVar 1) (lCons (eVar 3) (lNil))))
def f__law_book : Fun1 := defF 5 (sSeq (sSet 3 (eCall f__law_moments (lCons (eVar 0) (lCons (eVar 1) (lNil))))) (sRet (eTup (lCons (eVar 1) (lCons (eFn gTup (lCons (eLc [4] (.nm 4) (iOf gR1 (lCons (eCall f__law_dip (lCons (eVar 0) (lCons (eOp dAdd (eVar 2) (eC (.int 1))) (lNil)))) (lNil))) (bYes) (le__law_book_0)) (lNil))) (lNil))))))
def f__law_step : Fun1 := defF 3 (sSeq (sSet 2 (eCall f__law_dip (lCons (eVar 0) (lCons (eC (.int 6)) (lNil))))) (sSeq (sIf (bVal (eOp dEq (eVar 2) (eC (.int 0)))) (sRet (eTup (lCons (eC (.str "shift")) (lCons (eCall f__law_dip (lCons (eVar 0) (lCons (eVar 1) (lNil)))) (lCons (eOp dSub (eCall f__law_dip (lCons (eVar 0) (lCons (eC (.int 9)) (lNil)))) (eC (.int 4))) (lNil)))))) (sNx)) (sRet (eTup (lCons (eCall f__law_any (lCons (eVar 0) (lCons (eLst (lCons (eC (.str "later")) (lCons (eC (.str "later")) (lCons (eC (.str "earlier")) (lCons (eC (.str "longer")) (lCons (eC (.str "shorter")) (lNil))))))) (lNil)))) (lCons (eCall f__law_any (lCons (eVar 0) (lCons (eLst (lCons (eC (.int 0)) (lCons (eC (.int 1)) (lCons (eC (.int 2)) (lCons (eC (.int 3)) (lCons (eC (.int 5)) (lNil))))))) (lNil)))) (lNil)))))))
def le__law_steps_0 : E := eCall f__law_step (lCons (eVar 0) (lCons (eVar 1) (lNil)))
def f__law_steps : Fun1 := defF 4 (sRet (eFn gTup (lCons (eLc [3] (.nm 3) (iOf gR1 (lCons (eCall f__law_dip (lCons (eVar 0) (lCons (eOp dAdd (eVar 2) (eC (.int 1))) (lNil)))) (lNil))) (bYes) (le__law_steps_0)) (lNil))))
def f__law_more : Fun1 := defF 2 (sRet (eCall f__law_plus (lCons (eVar 0) (lCons (eTup (lCons (eVar 1) (lCons (eC (.int 1)) (lNil)))) (lNil)))))
def f__law_test : Fun1 := defF 7 (sSeq (sIf (bAnd (bVal (eOp dEq (eVar 0) (eC (.str "later")))) (bVal (eOp dGt (eVar 3) (eC (.int 0))))) (sSeq (sSet 5 (eCall f__law_more (lCons (eOp gIx (eVar 4) (eOp dSub (eOp dMul (eC (.int 2)) (eVar 3)) (eC (.int 1)))) (lCons (eVar 1) (lNil))))) (sRet (eTup (lCons (eVar 5) (lCons (eOp gIx (eVar 4) (eOp dMul (eC (.int 2)) (eVar 3))) (lCons (eTup (lCons (eOp dMul (eC (.int 2)) (eVar 3)) (lCons (eVar 5) (lNil)))) (lNil))))))) (sNx)) (sSeq (sIf (bAnd (bVal (eOp dEq (eVar 0) (eC (.str "earlier")))) (bVal (eOp dLt (eVar 3) (eOp dSub (eVar 2) (eC (.int 1)))))) (sSeq (sSet 6 (eOp gIx (eVar 4) (eOp dAdd (eOp dMul (eC (.int 2)) (eVar 3)) (eC (.int 2))))) (sRet (eTup (lCons (eCall f__law_more (lCons (eOp gIx (eVar 4) (eOp dAdd (eOp dMul (eC (.int 2)) (eVar 3)) (eC (.int 1)))) (lCons (eVar 1) (lNil)))) (lCons (eVar 6) (lCons (eTup (lCons (eOp dAdd (eOp dMul (eC (.int 2)) (eVar 3)) (eC (.int 1))) (lCons (eCall f__law_more (lCons (eVar 6) (lCons (eUn dNeg (eVar 1)) (lNil)))) (lNil)))) (lNil))))))) (sNx)) (sSeq (sIf (bVal (eOp dEq (eVar 0) (eC (.str "longer")))) (sSeq (sSet 5 (eCall f__law_more (lCons (eOp gIx (eVar 4) (eOp dMul (eC (.int 2)) (eVar 3))) (lCons (eVar 1) (lNil))))) (sRet (eTup (lCons (eVar 5) (lCons (eOp gIx (eVar 4) (eOp dAdd (eOp dMul (eC (.int 2)) (eVar 3)) (eC (.int 1)))) (lCons (eTup (lCons (eOp dAdd (eOp dMul (eC (.int 2)) (eVar 3)) (eC (.int 1))) (lCons (eVar 5) (lNil)))) (lNil))))))) (sNx)) (sSeq (sIf (bVal (eOp dEq (eVar 0) (eC (.str "shorter")))) (sSeq (sSet 5 (eCall f__law_more (lCons (eOp gIx (eVar 4) (eOp dMul (eC (.int 2)) (eVar 3))) (lCons (eVar 1) (lNil))))) (sRet (eTup (lCons (eOp gIx (eVar 4) (eOp dAdd (eOp dMul (eC (.int 2)) (eVar 3)) (eC (.int 1)))) (lCons (eVar 5) (lCons (eTup (lCons (eOp dAdd (eOp dMul (eC (.int 2)) (eVar 3)) (eC (.int 1))) (lCons (eVar 5) (lNil)))) (lNil))))))) (sNx)) (sRet (eTup (lCons (eC .non) (lCons (eC .non) (lCons (eC .non) (lNil))))))))))
def lb__law_run_0 : SM := sIf (bAnd (bVal (eOp dEq (eVar 6) (eC (.str "shift")))) (bVal (eOp dGe (eVar 8) (eOp dMul (eC (.int 2)) (eOp gIx (eVar 5) (eC (.int 1))))))) (sAsg (gtSub (eVar 3) (eVar 8)) (eCall f__law_more (lCons (eOp gIx (eVar 3) (eVar 8)) (lCons (eVar 7) (lNil))))) (sNx)
def lb__law_run_1 : SM := sSeq (sAsg (gtTup [gtName 10, gtName 11, gtName 12]) (eCall f__law_test (lCons (eVar 6) (lCons (eVar 7) (lCons (eVar 0) (lCons (eVar 9) (lCons (eVar 3) (lNil)))))))) (sIf (bVal (eOp dNotN (eVar 10) (eC .non))) (sSeq (sSet 13 (eCall f__law_below (lCons (eVar 11) (lCons (eVar 10) (lNil))))) (sSeq (sSet 4 (eOp dAdd (eVar 4) (eTup (lCons (eVar 13) (lNil))))) (sIf (bVal (eVar 13)) (sAsg (gtSub (eVar 3) (eOp gIx (eVar 12) (eC (.int 0)))) (eOp gIx (eVar 12) (eC (.int 1)))) (sNx)))) (sNx))
def lb__law_run_2 : SM := sSeq (sPar [6, 7] (lCons (eOp gIx (eVar 5) (eC (.int 0))) (lCons (eOp gIx (eVar 5) (eUn dNeg (eC (.int 1)))) (lNil)))) (sSeq (sFor (.nm 8) (iOf gR1 (lCons (eOp dMul (eC (.int 2)) (eVar 0)) (lNil))) (lb__law_run_0)) (sFor (.nm 9) (iOf gR1 (lCons (eVar 0) (lNil))) (lb__law_run_1)))
def f__law_run : Fun1 := defC 14 (sSeq (sPar [3, 4] (pCel (eFn gLst (lCons (eVar 2) (lNil))) (pCons (eTup (lNil)) (pNil)))) (sSeq (sFor (.nm 5) (iSeq (eVar 1)) (lb__law_run_2)) (sRet (eTup (lCons (eFn gTup (lCons (eVar 3) (lNil))) (lCons (eVar 4) (lNil)))))))
def lb__law_keeps_0 : SM := sIf (bVal (eCall f__law_below (lCons (eOp gIx (eVar 1) (eVar 3)) (lCons (eCall f__law_more (lCons (eOp gIx (eVar 1) (eVar 2)) (lCons (eVar 4) (lNil)))) (lNil))))) (sRet (eC (.bl false))) (sNx)
def f__law_keeps : Fun1 := defF 5 (sSeq (sFor (.tp [(.nm 2), (.nm 3), (.nm 4)]) (iSeq (eVar 0)) (lb__law_keeps_0)) (sRet (eC (.bl true))))
def ll__law_refused_0 : E := eCallV 4 [("behind", f_behind), ("word_of", f_word_of)] (lCons (eTup (lCons (eVar 0) (lCons (eTup (lNil)) (lNil)))) (lCons (eVar 1) (lCons (eVar 3) (lNil))))
def lb__law_refused_0 : SM := sIf (bVal (eOp dNe (eLamK kn__law_word hs__law_word (some "none") (ll__law_refused_0)) (eC (.str "moments")))) (sRet (eC (.bl false))) (sNx)
def ll__law_refused_1 : E := eCall f_keeps (lCons (eTup (lCons (eVar 0) (lCons (eTup (lNil)) (lNil)))) (lCons (eVar 3) (lNil)))
def lb__law_refused_1 : SM := sSeq (sFor (.nm 4) (iSeq (eLst (lCons (eC (.fn "behind")) (lCons (eC (.fn "word_of")) (lNil))))) (lb__law_refused_0)) (sIf (bVal (eOp dNe (eLamK kn__law_word hs__law_word (some "none") (ll__law_refused_1)) (eC (.str "moments")))) (sRet (eC (.bl false))) (sNx))
def ll__law_refused_2 : E := eCall f_behind (lCons (eTup (lCons (eVar 0) (lCons (eTup (lNil)) (lNil)))) (lCons (eVar 3) (lCons (eC .non) (lNil))))
def lb__law_refused_2 : SM := sIf (bVal (eOp dNe (eLamK kn__law_word hs__law_word (some "none") (ll__law_refused_2)) (eC (.str "script")))) (sRet (eC (.bl false))) (sNx)
def f__law_refused : Fun1 := defF 5 (sSeq (sFor (.nm 3) (iSeq (eLst (lCons (eC .non) (lCons (eTup (lNil)) (lCons (eSl (eVar 2) (oSome (eC (.int 1))) (oNone)) (lCons (eFn gLst (lCons (eVar 2) (lNil))) (lCons (eOp dAdd (eSl (eVar 2) (oNone) (oSome (eUn dNeg (eC (.int 1))))) (eTup (lCons (eTup (lCons (eC (.int 2)) (lCons (eC (.int 4)) (lNil)))) (lNil)))) (lCons (eOp dMul (eVar 2) (eC (.int 2))) (lNil))))))))) (lb__law_refused_1)) (sSeq (sFor (.nm 3) (iSeq (eLst (lCons (eC .non) (lCons (eTup (lCons (eTup (lCons (eC (.str "later")) (lCons (eUn dNeg (eC (.int 1))) (lNil)))) (lNil))) (lCons (eFn gLst (lCons (eVar 1) (lNil))) (lCons (eTup (lCons (eC (.str "later")) (lCons (eC (.int 3)) (lNil)))) (lCons (eTup (lCons (eTup (lCons (eC (.str "shift")) (lCons (eVar 0) (lCons (eC (.int 1)) (lNil))))) (lNil))) (lNil)))))))) (lb__law_refused_2)) (sRet (eC (.bl true)))))
def lb_law_0 : SM := sSeq (sSet 4 (eOp dAdd (eC (.int 1)) (eCall f__law_dip (lCons (eVar 2) (lCons (eC (.int 3)) (lNil)))))) (sSeq (sPar [5, 6] (lCons (eOp gIx (eCall f__law_book (lCons (eVar 2) (lCons (eVar 4) (lCons (eC (.int 4)) (lNil))))) (eC (.int 1))) (lCons (eCall f__law_steps (lCons (eVar 2) (lCons (eVar 4) (lCons (eC (.int 5)) (lNil))))) (lNil)))) (sSeq (sSet 7 (eCall f__law_moments (lCons (eVar 2) (lCons (eVar 4) (lNil))))) (sSeq (sIf (bVal (eOp dEq (eCall f__law_dip (lCons (eVar 2) (lCons (eC (.int 4)) (lNil)))) (eC (.int 0)))) (sSet 7 (eUn dRev (eVar 7))) (sNx)) (sSeq (sAsg (gtTup [gtName 8, gtName 9]) (eCall f__law_run (lCons (eVar 4) (lCons (eVar 6) (lCons (eVar 7) (lNil)))))) (sSeq (sSet 10 (eTup (lCons (eVar 4) (lCons (eVar 5) (lNil))))) (sSeq (sIf (bOr (bVal (eOp dNe (eCall f_behind (lCons (eVar 10) (lCons (eVar 6) (lCons (eVar 7) (lNil))))) (eVar 8))) (bVal (eOp dNe (eCall f_word_of (lCons (eVar 10) (lCons (eVar 6) (lCons (eVar 7) (lNil))))) (eVar 9)))) (sRet (eC (.bl false))) (sNx)) (sSeq (sSet 11 (eCall f_keeps (lCons (eTup (lCons (eVar 4) (lCons (eVar 5) (lNil)))) (lCons (eVar 7) (lNil))))) (sSeq (sIf (bOr (bVal (eOp dNe (eVar 11) (eCall f__law_keeps (lCons (eVar 5) (lCons (eVar 7) (lNil)))))) (bNot (bVal (eFn gIsi (lCons (eVar 11) (lCons (eC (.ty "bool")) (lNil))))))) (sRet (eC (.bl false))) (sNx)) (sIf (bNot (bVal (eCall f__law_refused (lCons (eVar 4) (lCons (eVar 6) (lCons (eVar 7) (lNil))))))) (sRet (eC (.bl false))) (sNx))))))))))
def lb_law_1 : SM := sSeq (sCel 2 (eCall f__law_jar (lCons (eVar 0) (lCons (eVar 1) (lNil))))) (sFor (.nm 3) (iOf gR1 (lCons (eC (.int 5)) (lNil))) (lb_law_0))
def f_law : Fun1 := defC 19 (sSeq (sFor (.nm 1) (iOf gR1 (lCons (eFn gMax2 (lCons (eC (.int 5)) (lCons (eFn gMin2 (lCons (eC (.int 16)) (lCons (eOp dAdd (eFn gLen (lCons (eVar 0) (lNil))) (eC (.int 4))) (lNil)))) (lNil)))) (lNil))) (lb_law_1)) (sSeq (sAsg (gtTup [gtName 12, gtName 13]) (eTup (lCons (eTup (lCons (eTup (lCons (eC (.int 0)) (lCons (eC (.int 1)) (lNil)))) (lCons (eTup (lCons (eC (.int 5)) (lCons (eC (.int 1)) (lNil)))) (lCons (eTup (lCons (eC (.int 6)) (lCons (eC (.int 1)) (lNil)))) (lCons (eTup (lCons (eC (.int 7)) (lCons (eC (.int 1)) (lNil)))) (lNil)))))) (lCons (eTup (lCons (eTup (lCons (eC (.int 0)) (lCons (eC (.int 1)) (lNil)))) (lCons (eTup (lCons (eC (.int 2)) (lCons (eC (.int 1)) (lNil)))) (lCons (eTup (lCons (eC (.int 9)) (lCons (eC (.int 1)) (lNil)))) (lCons (eTup (lCons (eC (.int 12)) (lCons (eC (.int 1)) (lNil)))) (lNil)))))) (lNil))))) (sSeq (sAsg (gtTup [gtName 14, gtName 15]) (eTup (lCons (eTup (lCons (eC (.int 2)) (lCons (eTup (lCons (eTup (lCons (eC (.int 0)) (lCons (eC (.int 1)) (lCons (eC (.int 2)) (lNil))))) (lCons (eTup (lCons (eC (.int 1)) (lCons (eC (.int 2)) (lCons (eC (.int 1)) (lNil))))) (lCons (eTup (lCons (eC (.int 2)) (lCons (eC (.int 3)) (lCons (eC (.int 2)) (lNil))))) (lNil))))) (lNil)))) (lCons (eTup (lCons (eTup (lCons (eC (.str "later")) (lCons (eC (.int 3)) (lNil)))) (lNil))) (lNil))))) (sSeq (sSet 11 (eLst (lCons (eCall f_behind (lCons (eVar 14) (lCons (eVar 15) (lCons (eVar 12) (lNil))))) (lCons (eCall f_behind (lCons (eVar 14) (lCons (eTup (lCons (eTup (lCons (eC (.str "earlier")) (lCons (eC (.int 3)) (lNil)))) (lNil))) (lCons (eVar 12) (lNil))))) (lCons (eCall f_behind (lCons (eVar 14) (lCons (eTup (lCons (eTup (lCons (eC (.str "longer")) (lCons (eC (.int 4)) (lNil)))) (lNil))) (lCons (eVar 12) (lNil))))) (lNil)))))) (sSeq (sIf (bVal (eOp dNe (eLc [16, 17] (.tp [(.nm 16), (.nm 17)]) (iSeq (eFn gLstZip (lCons (eVar 11) (lCons (eTup (lCons (eC (.int 2)) (lCons (eC (.int 1)) (lCons (eC (.int 3)) (lNil))))) (lNil))))) (bYes) (eOp gIx (eVar 16) (eVar 17))) (eLst (lCons (eTup (lCons (eC (.int 8)) (lCons (eC (.int 1)) (lNil)))) (lCons (eTup (lCons (eC (.int 3)) (lCons (eC (.int 1)) (lNil)))) (lCons (eTup (lCons (eC (.int 10)) (lCons (eC (.int 1)) (lNil)))) (lNil))))))) (sRet (eC (.bl false))) (sNx)) (sSeq (sSet 6 (eTup (lCons (eTup (lCons (eC (.str "shift")) (lCons (eC (.int 1)) (lCons (eC (.int 5)) (lNil))))) (lCons (eTup (lCons (eC (.str "later")) (lCons (eC (.int 2)) (lNil)))) (lCons (eTup (lCons (eC (.str "longer")) (lCons (eC (.int 1)) (lNil)))) (lNil)))))) (sSeq (sIf (bOr (bVal (eOp dNe (eCall f_behind (lCons (eVar 14) (lCons (eVar 6) (lCons (eVar 12) (lNil))))) (eTup (lCons (eTup (lCons (eC (.int 0)) (lCons (eC (.int 1)) (lNil)))) (lCons (eTup (lCons (eC (.int 5)) (lCons (eC (.int 1)) (lNil)))) (lCons (eTup (lCons (eC (.int 11)) (lCons (eC (.int 1)) (lNil)))) (lCons (eTup (lCons (eC (.int 12)) (lCons (eC (.int 1)) (lNil)))) (lNil)))))))) (bVal (eOp dNe (eCall f_word_of (lCons (eVar 14) (lCons (eVar 6) (lCons (eVar 12) (lNil))))) (eOp dMul (eTup (lCons (eC (.bl false)) (lNil))) (eC (.int 3)))))) (sRet (eC (.bl false))) (sNx)) (sSeq (sIf (bOr (bVal (eOp dNe (eCall f_behind (lCons (eVar 14) (lCons (eTup (lCons (eTup (lCons (eC (.str "shorter")) (lCons (eC (.int 2)) (lNil)))) (lNil))) (lCons (eVar 12) (lNil))))) (eTup (lCons (eTup (lCons (eC (.int 0)) (lCons (eC (.int 1)) (lNil)))) (lCons (eTup (lCons (eC (.int 2)) (lCons (eC (.int 1)) (lNil)))) (lCons (eTup (lCons (eC (.int 6)) (lCons (eC (.int 1)) (lNil)))) (lCons (eTup (lCons (eC (.int 7)) (lCons (eC (.int 1)) (lNil)))) (lNil)))))))) (bVal (eCall f_keeps (lCons (eVar 14) (lCons (eVar 12) (lNil)))))) (sRet (eC (.bl false))) (sNx)) (sSeq (sSet 18 (eTup (lCons (eTup (lCons (eC (.int 0)) (lCons (eC (.int 1)) (lNil)))) (lCons (eTup (lCons (eC (.int 4)) (lCons (eC (.int 1)) (lNil)))) (lCons (eTup (lCons (eC (.int 1)) (lCons (eC (.int 1)) (lNil)))) (lCons (eTup (lCons (eC (.int 2)) (lCons (eC (.int 1)) (lNil)))) (lCons (eTup (lCons (eC (.int 0)) (lCons (eC (.int 1)) (lNil)))) (lCons (eTup (lCons (eC (.int 9)) (lCons (eC (.int 2)) (lNil)))) (lNil))))))))) (sSeq (sIf (bVal (eOp dNe (eCall f_behind (lCons (eTup (lCons (eC (.int 3)) (lCons (eTup (lNil)) (lNil)))) (lCons (eTup (lCons (eTup (lCons (eC (.str "later")) (lCons (eC (.int 1)) (lNil)))) (lNil))) (lCons (eVar 18) (lNil))))) (eTup (lCons (eTup (lCons (eC (.int 0)) (lCons (eC (.int 1)) (lNil)))) (lCons (eTup (lCons (eC (.int 4)) (lCons (eC (.int 1)) (lNil)))) (lCons (eTup (lCons (eC (.int 5)) (lCons (eC (.int 1)) (lNil)))) (lCons (eTup (lCons (eC (.int 2)) (lCons (eC (.int 1)) (lNil)))) (lCons (eTup (lCons (eC (.int 3)) (lCons (eC (.int 1)) (lNil)))) (lCons (eTup (lCons (eC (.int 9)) (lCons (eC (.int 2)) (lNil)))) (lNil)))))))))) (sRet (eC (.bl false))) (sNx)) (sRet (eAnd (eOp dEq (eCall f_word_of (lCons (eTup (lCons (eC (.int 3)) (lCons (eTup (lNil)) (lNil)))) (lCons (eTup (lCons (eTup (lCons (eC (.str "later")) (lCons (eC (.int 1)) (lNil)))) (lNil))) (lCons (eVar 18) (lNil))))) (eTup (lCons (eC (.bl true)) (lCons (eC (.bl true)) (lNil))))) (eOp dIsB (eCall f_keeps (lCons (eVar 14) (lCons (eVar 13) (lNil)))) (eC (.bl true)))))))))))))))
end G

end
section
namespace G
open PySem PySem.Spec L2
theorem dip_ok {n : Nat} {s : Sto} {w : Int} (h : Jar n s) (h0 : 0 < w) (h1 : w < 1073741824) : ∃ r s', f__law_dip [.cel n, .int w] s = .ok (.int r) s' ∧ 0 ≤ r ∧ r < w ∧ Jr n s s' := by
  obtain ⟨a, b, h, ha, hb, hb2⟩ := h
  by_cases ha0 : 0 < a
  · refine ⟨a % w, setCel s n [.int (a / w), .int b], ?_, Int.emod_nonneg _ (by omega), Int.emod_lt_of_pos _ h0, .set h (Int.ediv_nonneg ha (by omega)) hb hb2⟩
    have q1 : putCel s (.cel n) (.int 0) (.int (a / w)) = some (setCel s n [.int (a / w), .int b]) := putCel_0 h rfl
    simp [f__law_dip, defF_ap, gIx_cel h, ha0, dMod_ii h0, dFdiv_ii h0 h1, q1]
  · have hm : (b * 47711 + 6007) % 2147477857 < 2147477857 := Int.emod_lt_of_pos _ (by decide)
    have hm0 : 0 ≤ (b * 47711 + 6007) % 2147477857 := Int.emod_nonneg _ (by decide)
    generalize hc : (b * 47711 + 6007) % 2147477857 = c at hm hm0
    refine ⟨(c * (c / 67 + 47)) % 2147477851 / 31 % w, setCel s n [.int a, .int c], ?_, Int.emod_nonneg _ (by omega), Int.emod_lt_of_pos _ h0, .set h ha hm0 (by omega)⟩
    have q1 : putCel s (.cel n) (.int 1) (.int c) = some (setCel s n [.int a, .int c]) := putCel_1 h rfl
    have g1 : (setCel s n [.int a, .int c]).cel[n]? = some [.int a, .int c] := setCel_at h
    have m1 : dMul s (.int b) (.int 47711) = some (.int (b * 47711)) := dMul_ii (by omega) (by omega)
    have m2 : dMul (setCel s n [.int a, .int c]) (.int c) (.int (c / 67 + 47)) = some (.int (c * (c / 67 + 47))) := dMul_ii (by omega) (by omega)
    simp [f__law_dip, defF_ap, gIx_cel h, ha0, gIx_cel g1, m1, m2, dMod_ii, dFdiv_ii, hc, q1, h0]
theorem any_ok {n : Nat} {s : Sto} {l : List D} (h : Jar n s) (h0 : l ≠ []) (h1 : l.length < 1073741824) : ∃ d s', f__law_any [.cel n, .lst l] s = .ok d s' ∧ d ∈ l ∧ Jr n s s' := by
  have hl : 0 < l.length := List.length_pos_iff.mpr h0
  obtain ⟨r, s', e, r0, r1, j⟩ := dip_ok (w := (l.length : Int)) h (by omega) (by omega)
  have hr : r.toNat < l.length := by omega
  refine ⟨l[r.toNat], s', ?_, List.getElem_mem hr, j⟩
  have q : atI l r = some l[r.toNat] := by rw [atI_nat r0 r1, List.getElem?_eq_getElem hr]
  simp [f__law_any, defF_ap, e, q]
/-! the greatest common part -/
theorem low_loop {c : EB} {b : SM} (hbd : b = sPar [2, 3] (lCons (eVar 3) (lCons (eOp dMod (eVar 2) (eVar 3)) lNil))) (hc : ∀ (x y a b : D) (s : Sto) (i j : Int), 0 ≤ j → c [some x, some y, some (.int i), some (.int j)] s = .ok (decide (j ≠ 0)) s) : ∀ (m : Nat) (i j : Int) (x y : D) (s : Sto), 0 ≤ i → 0 ≤ j → j < m → ∃ j', whileN c b m [some x, some y, some (.int i), some (.int j)] s = .ok .nx [some x, some y, some (.int (Int.gcd i j)), some j'] s
  | 0, i, j, x, y, s, hi, hj, hm => by omega
  | m + 1, i, j, x, y, s, hi, hj, hm => by
    unfold whileN
    rw [hc x y x y s i j hj]
    by_cases h0 : j = 0
    · subst h0
      refine ⟨.int 0, ?_⟩
      have e : ((Int.gcd i 0 : Nat) : Int) = i := by rw [Int.gcd_zero_right]; omega
      simp
      omega
    · have hj0 : 0 < j := by omega
      have l1 := Int.emod_lt_of_pos i hj0
      have l0 := Int.emod_nonneg i (by omega : j ≠ 0)
      obtain ⟨j', e⟩ := low_loop hbd hc m j (i % j) x y s hj l0 (by omega)
      have eg : Int.gcd j (i % j) = Int.gcd i j := by
        obtain ⟨a, rfl⟩ := Int.eq_ofNat_of_zero_le hi
        obtain ⟨b, rfl⟩ := Int.eq_ofNat_of_zero_le hj
        rw [← Int.natCast_emod, Int.gcd_natCast_natCast, Int.gcd_natCast_natCast, Nat.gcd_comm a b, Nat.gcd_rec b a, Nat.gcd_comm]
      rw [eg] at e
      refine ⟨j', ?_⟩
      subst hbd
      simp [h0, dMod_ii hj0, e]
def lowT (i j : Int) : D := .tup [.int (i / (Int.gcd i j : Nat)), .int (j / (Int.gcd i j : Nat))]
theorem gcd_pos {i j : Int} (h : 0 < j) : 0 < (Int.gcd i j : Int) := by
  have := Int.gcd_pos_of_ne_zero_right i (by omega : j ≠ 0)
  omega
theorem gcd_le {i j : Int} (h : 0 < j) : (Int.gcd i j : Int) ≤ j := by
  have := Int.gcd_dvd_right i j
  exact Int.le_of_dvd h this
theorem low_ok {s : Sto} {i j : Int} (h0 : 0 < j) (h1 : j < 2 ^ 64) : f__law_low [.int i, .int j] s = .ok (lowT i j) s := by
  have hi : 0 ≤ (if i < 0 then -i else i) := by split <;> omega
  obtain ⟨j', e⟩ := low_loop (c := wc__law_low_0) (b := wb__law_low_0) rfl (fun x y a b s i j hj => by
    have : (0 < j) = ¬ (j = 0) := propext ⟨fun _ => by omega, fun _ => by omega⟩
    simp [wc__law_low_0, this]) (j.toNat + 1) (if i < 0 then -i else i) j (.int i) (.int j) s hi (by omega) (by omega)
  have eg : Int.gcd (if i < 0 then -i else i) j = Int.gcd i j := by split <;> simp
  rw [eg] at e
  have p := gcd_pos (i := i) h0
  have l := gcd_le (i := i) h0
  unfold f__law_low
  rw [defF_ap]
  simp [wfuel, e, dFdiv_wide p (by omega), lowT]
theorem lowest_ok {s : Sto} {i j : Int} (h0 : 0 < j) (h1 : j < 2 ^ 64) : f_lowest [.int i, .int j] s = .ok (lowT i j) s := by
  have hi : 0 ≤ (if i < 0 then -i else i) := by split <;> omega
  obtain ⟨j', e⟩ := low_loop (c := wc_lowest_0) (b := wb_lowest_0) rfl (fun x y a b s i j hj => by
    simp [wc_lowest_0, dNe]
    by_cases h : j = 0 <;> simp [h]) (j.toNat + 1) (if i < 0 then -i else i) j (.int i) (.int j) s hi (by omega) (by omega)
  have eg : Int.gcd (if i < 0 then -i else i) j = Int.gcd i j := by split <;> simp
  rw [eg] at e
  have p := gcd_pos (i := i) h0
  have l := gcd_le (i := i) h0
  unfold f_lowest
  rw [defF_ap]
  simp [wfuel, e, dFdiv_wide p (by omega), lowT]
end G

end
section
namespace G
open PySem PySem.Spec L2
/-! ### the checks, as plain answers -/
def strsOk : List Str := ["", "later", "earlier", "longer", "shorter", "shift", "Later", "LATER", "EARLIER", "LONGER", "SHORTER", "SHIFT"]
/-- data, of known texts, at most so deep -/
def okT : Nat → D → Prop
  | _, .non => True
  | _, .bl _ => True
  | _, .int _ => True
  | _, .str x => x ∈ strsOk
  | n + 1, .tup l => l.length ≤ 20 + n ∧ ∀ y ∈ l, okT n y
  | n + 1, .lst l => l.length ≤ 20 + n ∧ ∀ y ∈ l, okT n y
  | _, _ => False
theorem okT.suc : ∀ {n : Nat} {d : D}, okT n d → okT (n + 1) d
  | _, .non, _ => trivial
  | _, .bl _, _ => trivial
  | _, .int _, _ => trivial
  | _, .str _, h => by unfold okT at h ⊢; exact h
  | n + 1, .tup l, h => by
    unfold okT at h ⊢
    exact ⟨by omega, fun y hy => okT.suc (h.2 y hy)⟩
  | n + 1, .lst l, h => by
    unfold okT at h ⊢
    exact ⟨by omega, fun y hy => okT.suc (h.2 y hy)⟩
  | 0, .tup _, h => by unfold okT at h; exact h.elim
  | 0, .lst _, h => by unfold okT at h; exact h.elim
  | _, .cel _, h => by unfold okT at h; exact h.elim
  | _, .obj _, h => by unfold okT at h; exact h.elim
  | _, .fn _, h => by unfold okT at h; exact h.elim
  | _, .ty _, h => by unfold okT at h; exact h.elim
  | _, .scr _, h => by unfold okT at h; exact h.elim
theorem okT.le {n m : Nat} {d : D} (h : okT n d) (hm : n ≤ m) : okT m d := by
  induction hm with
  | refl => exact h
  | step _ ih => exact ih.suc
theorem strs_ok : ∀ x ∈ strsOk, PyData.strOk x = true := by decide +kernel
theorem isDataL_of : ∀ {l : List D}, (∀ y ∈ l, isData y = true) → isDataL l = true
  | [], _ => by simp [isDataL]
  | d :: l, h => by
    simp only [isDataL, h d (List.mem_cons_self ..), isDataL_of fun y hy => h y (List.mem_cons_of_mem _ hy), Bool.and_self]
theorem depthL_of {n : Nat} : ∀ {l : List D}, (∀ y ∈ l, depthD y ≤ n) → depthL l ≤ n
  | [], _ => by simp [depthL]
  | d :: l, h => by
    have h1 := h d (List.mem_cons_self ..)
    have h2 := depthL_of (n := n) (l := l) fun y hy => h y (List.mem_cons_of_mem _ hy)
    simp only [depthL]
    omega
theorem okT.data : ∀ {n : Nat} {d : D}, okT n d → isData d = true ∧ depthD d ≤ n
  | _, .non, _ => by simp [isData, depthD]
  | _, .bl _, _ => by simp [isData, depthD]
  | _, .int _, _ => by simp [isData, depthD]
  | _, .str x, h => by
    unfold okT at h
    simp [isData, depthD, strs_ok x h]
  | n + 1, .tup l, h => by
    unfold okT at h
    simp only [isData, depthD]
    exact ⟨isDataL_of fun y hy => (okT.data (h.2 y hy)).1, Nat.succ_le_succ (depthL_of fun y hy => (okT.data (h.2 y hy)).2)⟩
  | n + 1, .lst l, h => by
    unfold okT at h
    simp only [isData, depthD]
    exact ⟨isDataL_of fun y hy => (okT.data (h.2 y hy)).1, Nat.succ_le_succ (depthL_of fun y hy => (okT.data (h.2 y hy)).2)⟩
  | 0, .tup _, h => by unfold okT at h; exact h.elim
  | 0, .lst _, h => by unfold okT at h; exact h.elim
  | _, .cel _, h => by unfold okT at h; exact h.elim
  | _, .obj _, h => by unfold okT at h; exact h.elim
  | _, .fn _, h => by unfold okT at h; exact h.elim
  | _, .ty _, h => by unfold okT at h; exact h.elim
  | _, .scr _, h => by unfold okT at h; exact h.elim
theorem okT.ok {n : Nat} {d : D} (h : okT n d) (hn : n ≤ 60) : okD d = true := by
  have := h.data
  unfold okD
  simp only [this.1, Bool.true_and, decide_eq_true_eq]
  omega
theorem okT_tup {n : Nat} {l : List D} (h : okT (n + 1) (.tup l)) : ∀ y ∈ l, okT n y := by unfold okT at h; exact h.2
theorem okT_tupL {n : Nat} {l : List D} (h : okT (n + 1) (.tup l)) : l.length ≤ 20 + n := by unfold okT at h; exact h.1
theorem okT_fil {n : Nat} {l : List D} {g : D → Bool} (h : okT (n + 1) (.tup l)) : okT (n + 1) (.lst (l.filter g)) := by
  unfold okT at h ⊢
  exact ⟨Nat.le_trans (List.length_filter_le ..) h.1, fun y hy => h.2 y (List.mem_filter.mp hy).1⟩
theorem okT_lst {n : Nat} {l : List D} (h : okT (n + 1) (.lst l)) : ∀ y ∈ l, okT n y := by unfold okT at h; exact h.2
def isFrom (d : D) (lo hi : Int) : Bool := match d with
  | .int i => decide (lo ≤ i ∧ i ≤ hi)
  | _ => false
def dta (d : D) : Prop := ∃ a, tyN d = some a
theorem okT.isD {n : Nat} {d : D} (h : okT n d) : dta d := by
  cases d <;> first | exact ⟨_, rfl⟩ | (unfold okT at h; exact h.elim)
@[simp] theorem isi_int {s : Sto} {d : D} {T : String} : gIsi s [d, .ty T] = (tyN d).bind fun a => (isiB a T).map .bl := rfl
theorem is_from_ok {s : Sto} {d : D} {lo hi : Int} (h : dta d) : f_is_from [d, .int lo, .int hi] s = .ok (.bl (isFrom d lo hi)) s := by
  obtain ⟨a, h⟩ := h
  cases d <;> simp [tyN] at h <;> simp [f_is_from, defF_ap, tyN, isiB, isFrom]
  rename_i i
  by_cases h1 : lo ≤ i <;> simp [h1]
theorem isFrom_eq {d : D} {lo hi : Int} (h : isFrom d lo hi = true) : ∃ i, d = .int i ∧ lo ≤ i ∧ i ≤ hi := by
  cases d <;> simp [isFrom] at h
  exact ⟨_, rfl, h⟩
def isGap (c : Int) (d : D) : Bool := match d with
  | .tup [a, b, e] => isFrom a 0 (2 * c - 1) && isFrom b 0 (2 * c - 1) && !(deq a b) && isFrom e (-1000) 1000
  | _ => false
theorem lcL_c {t : EB} {f : E} {env : Env} {i : Nat} {d : D} {ds : List D} {s : Sto} (h : t = bYes) : lcL (.nm i) t f env (d :: ds) s = (match f (env.set i (some d)) s with
    | .ok y s2 => (lcL (.nm i) t f env ds s2).bind fun ys s3 => .ok (y :: ys) s3
    | _ => .bad) := by
  subst h
  conv => lhs; unfold lcL
  simp only [Pat.bind, bYes_ap] <;> rfl
@[simp] theorem lcL_n {p : Pat} {t : EB} {f : E} {env : Env} {s : Sto} : lcL p t f env [] s = .ok [] s := rfl
theorem is_gap_ok {s : Sto} {c : Int} {n : Nat} {d : D} (h : okT n d) (hn : n ≤ 60) (hc : -1000 < c ∧ c < 1000) : f_is_gap [.int c, d] s = .ok (.bl (isGap c d)) s := by
  cases d with
  | tup l =>
    cases n with
    | zero => unfold okT at h; exact h.elim
    | succ n =>
    have h := okT_tup h
    rcases l with _ | ⟨a, _ | ⟨b, _ | ⟨e, _ | ⟨f, r⟩⟩⟩⟩
    · simp [f_is_gap, defF_ap, tyN, isiB, dNe, isGap]
    · simp [f_is_gap, defF_ap, tyN, isiB, dNe, isGap]
    · simp [f_is_gap, defF_ap, tyN, isiB, dNe, isGap]
    · have ha : okT n a := h a (by simp)
      have hb : okT n b := h b (by simp)
      have he : okT n e := h e (by simp)
      have g1 : ∀ s, gSl s (.tup [a, b, e]) none (some 2) = some (.tup [a, b]) := fun _ => rfl
      have m1 : ∀ s, dMul s (.int 2) (.int c) = some (.int (2 * c)) := fun _ => dMul_ii (by omega) (by omega)
      have oa := ha.ok (by omega)
      have ob := hb.ok (by omega)
      have da : ∀ s, deref s a = a := fun _ => by cases a <;> first | rfl | (unfold okT at ha; exact ha.elim)
      have db : ∀ s, deref s b = b := fun _ => by cases b <;> first | rfl | (unfold okT at hb; exact hb.elim)
      have hall : ∀ x y : Bool, gAll s [.lst [.bl x, .bl y]] = some (.bl (x && y)) := fun x y => by
        cases x <;> cases y <;> rfl
      have hcall : ∀ s, f_is_from [e, .int (-1000), .int 1000] s = .ok (.bl (isFrom e (-1000) 1000)) s := fun s => is_from_ok he.isD
      cases e1 : isFrom a 0 (2 * c - 1) <;> cases e2 : isFrom b 0 (2 * c - 1) <;> cases e3 : deq a b <;>
      simp [f_is_gap, defF_ap, tyN, isiB, dNe, dEq, isGap, g1, le_is_gap_0, lcL_c, m1, is_from_ok ha.isD, is_from_ok hb.isD, hall, hcall, oa, ob, da, db, e1, e2, e3]
    · have : ¬ ((r.length : Int) + 1 + 1 + 1 + 1 = 3) := by omega
      simp [f_is_gap, defF_ap, tyN, isiB, dNe, isGap, this]
  | _ => first | (unfold okT at h; exact h.elim) | simp [f_is_gap, defF_ap, tyN, isiB, isGap]
theorem okT.deref {n : Nat} {a : D} (ha : okT n a) (s : Sto) : G.deref s a = a := by cases a <;> first | rfl | (unfold okT at ha; exact ha.elim)
def cOf : D → Int
  | .int i => i
  | _ => 0
def gapsOk (c : Int) (d : D) : Bool := match d with
  | .tup l => decide (l.length ≤ 6) && l.all (isGap c)
  | _ => false
def isBook (d : D) : Bool := match d with
  | .tup [a, b] => isFrom a 1 3 && gapsOk (cOf a) b
  | _ => false
theorem isFrom_c {d : D} {lo hi : Int} (h : isFrom d lo hi = true) : d = .int (cOf d) ∧ lo ≤ cOf d ∧ cOf d ≤ hi := by
  obtain ⟨i, e, h'⟩ := isFrom_eq h
  subst e
  exact ⟨rfl, h'⟩
theorem deq_filter {g : D → Bool} {l : List D} : deqL (l.filter fun x => !(g x)) [] = l.all g := by
  induction l with
  | nil => simp
  | cons d l ih => cases e : g d <;> simp [e, ih]
theorem good_book_ok {s : Sto} {n : Nat} {d : D} (h : okT n d) (hn : n ≤ 60) : f_is_good_book [d] s = .ok (.bl (isBook d)) s := by
  cases d with
  | tup l =>
    cases n with
    | zero => unfold okT at h; exact h.elim
    | succ n =>
    have h := okT_tup h
    rcases l with _ | ⟨a, _ | ⟨b, _ | ⟨e, r⟩⟩⟩
    · simp [f_is_good_book, defF_ap, tyN, isiB, dNe, isBook]
    · simp [f_is_good_book, defF_ap, tyN, isiB, dNe, isBook]
    · have ha : okT n a := h a (by simp)
      have hb : okT n b := h b (by simp)
      have hcall : ∀ s, f_is_from [a, .int 1, .int 3] s = .ok (.bl (isFrom a 1 3)) s := fun s => is_from_ok ha.isD
      cases e1 : isFrom a 1 3
      · simp [f_is_good_book, defF_ap, tyN, isiB, dNe, isBook, hcall, e1]
      · obtain ⟨ea, a1, a2⟩ := isFrom_c e1
        cases b with
        | tup l =>
          cases n with
          | zero => unfold okT at hb; exact hb.elim
          | succ n =>
          have hbT := hb
          have hb := okT_tup hb
          by_cases hl : l.length ≤ 6
          · have hl' : ¬ ((6 : Int) < l.length) := by omega
            have key : ∀ s, lcL (.nm 1) bYes le_is_good_book_0 [some (.tup [a, .tup l]), none] l s = .ok (l.map fun x => .bl (isGap (cOf a) x)) s := fun s =>
              lc_map fun x hx => by
                have := is_gap_ok (s := s) (c := cOf a) (hb x hx) (by omega) (by omega)
                rw [← ea] at this
                simp [le_is_good_book_0, this]
            simp [f_is_good_book, defF_ap, tyN, isiB, dNe, isBook, hcall, e1, hl, hl', key, gAll_map, gapsOk]
          · have hl' : ((6 : Int) < l.length) := by omega
            simp [f_is_good_book, defF_ap, tyN, isiB, dNe, isBook, gapsOk, hcall, e1, hl, hl']
        | _ => first | (unfold okT at hb; exact hb.elim) | simp [f_is_good_book, defF_ap, tyN, isiB, dNe, isBook, gapsOk, hcall, e1]
    · have : ¬ ((r.length : Int) + 1 + 1 + 1 = 2) := by omega
      simp [f_is_good_book, defF_ap, tyN, isiB, dNe, this, isBook]
  | _ => first | (unfold okT at h; exact h.elim) | simp [f_is_good_book, defF_ap, tyN, isiB, isBook]
def words4 : List D := [.str "later", .str "earlier", .str "longer", .str "shorter"]
def isStep (c : Int) (d : D) : Bool := match d with
  | .tup (.str x :: r) => if x = "shift" then (match r with
      | [a, b] => isFrom a 0 (c - 1) && isFrom b (-1000) 1000
      | _ => false) else (words4.any fun z => deq z (.str x)) && (match r with
      | [a] => isFrom a 0 1000
      | _ => false)
  | _ => false
theorem okD_w4 : okD (.tup words4) = true := by decide +kernel
theorem okD_w4l : okD (.lst words4) = true := by decide +kernel
theorem dIn_w4 {s : Sto} {x : Str} (h : okD (.str x) = true) : dIn s (.str x) (.tup [.str "later", .str "earlier", .str "longer", .str "shorter"]) = some (.bl (words4.any fun z => deq z (.str x))) := by
  have e : okD (.tup [.str "later", .str "earlier", .str "longer", .str "shorter"]) = true := okD_w4
  unfold dIn dInB
  simp only [deref_tup, h, e, Bool.and_self, if_true]
  rfl
theorem dIn_w4l {s : Sto} {x : Str} (h : okD (.str x) = true) : dIn s (.str x) (.lst [.str "later", .str "earlier", .str "longer", .str "shorter"]) = some (.bl (words4.any fun z => deq z (.str x))) := by
  have e : okD (.lst [.str "later", .str "earlier", .str "longer", .str "shorter"]) = true := okD_w4l
  unfold dIn dInB
  simp only [deref_lst, h, e, Bool.and_self, if_true]
  rfl
theorem okD_shift : okD (.str "shift") = true := by decide +kernel
theorem is_step_ok {s : Sto} {c : Int} {n : Nat} {d : D} (h : okT n d) (hn : n ≤ 60) : f_is_step [.int c, d] s = .ok (.bl (isStep c d)) s := by
  have hd := h.ok hn
  cases d with
  | tup l =>
    cases n with
    | zero => unfold okT at h; exact h.elim
    | succ n =>
    have h := okT_tup h
    cases l with
    | nil => simp [f_is_step, defF_ap, tyN, isiB, dEq, isStep]
    | cons a r =>
      have ha : okT n a := h a (by simp)
      cases a with
      | str x =>
        have hx := ha.ok (by omega : n ≤ 60)
        by_cases e : x = "shift"
        · subst e
          rcases r with _ | ⟨b, _ | ⟨c2, _ | ⟨f, r⟩⟩⟩
          · simp [f_is_step, defF_ap, tyN, isiB, dEq, isStep, hd, hx]
          · simp [f_is_step, defF_ap, tyN, isiB, dEq, isStep, hd, hx]
          · have hb : okT n b := h b (by simp)
            have hc2 : okT n c2 := h c2 (by simp)
            have hcall : ∀ s, f_is_from [c2, .int (-1000), .int 1000] s = .ok (.bl (isFrom c2 (-1000) 1000)) s := fun s => is_from_ok hc2.isD
            cases e1 : isFrom b 0 (c - 1) <;> simp [f_is_step, defF_ap, tyN, isiB, dEq, isStep, hd, hx, is_from_ok hb.isD, hcall, e1]
          · have : ¬ ((r.length : Int) + 1 + 1 + 1 + 1 = 3) := by omega
            simp [f_is_step, defF_ap, tyN, isiB, dEq, isStep, hd, hx, this]
        · have hw := fun s => dIn_w4 (s := s) hx
          cases e2 : (words4.any fun z => deq z (.str x))
          · simp [f_is_step, defF_ap, tyN, isiB, dEq, isStep, hd, hx, okD_shift, e, hw, e2]
          · rcases r with _ | ⟨b, _ | ⟨c2, r⟩⟩
            · simp [f_is_step, defF_ap, tyN, isiB, dEq, isStep, hd, hx, okD_shift, e, hw, e2]
            · have hb : okT n b := h b (by simp)
              have hcall : ∀ s, f_is_from [b, .int 0, .int 1000] s = .ok (.bl (isFrom b 0 1000)) s := fun s => is_from_ok hb.isD
              simp [f_is_step, defF_ap, tyN, isiB, dEq, isStep, hd, hx, okD_shift, e, hw, e2, hcall]
            · have : ¬ ((r.length : Int) + 1 + 1 + 1 = 2) := by omega
              simp [f_is_step, defF_ap, tyN, isiB, dEq, isStep, hd, hx, okD_shift, e, hw, e2, this]
      | _ => first | (unfold okT at ha; exact ha.elim) | simp [f_is_step, defF_ap, tyN, isiB, dEq, isStep, hd]
  | _ => first | (unfold okT at h; exact h.elim) | simp [f_is_step, defF_ap, tyN, isiB, isStep]
theorem for_all {body : SM} {i : Nat} {g : D → Bool} {I : Env → Prop} {s : Sto} : ∀ {ds : List D} {env : Env}, I env → (∀ d ∈ ds, ∀ env, I env → ∃ env', body (env.set i (some d)) s = (if g d = true then .ok .nx env' s else .ok (.rt (.bl false)) env' s) ∧ I env') → ∃ env', forL (.nm i) body ds env s = (if ds.all g = true then .ok .nx env' s else .ok (.rt (.bl false)) env' s)
  | [], env, _, _ => ⟨env, rfl⟩
  | d :: ds, env, hI, h => by
    obtain ⟨env1, e1, i1⟩ := h d (List.mem_cons_self ..) env hI
    cases e : g d
    · refine ⟨env1, ?_⟩
      unfold forL
      simp [Pat.bind, e1, e]
    · obtain ⟨env2, e2⟩ := for_all (ds := ds) i1 fun z hz => h z (List.mem_cons_of_mem _ hz)
      refine ⟨env2, ?_⟩
      unfold forL
      simp [Pat.bind, e1, e, e2]
def isScript (c : Int) (d : D) : Bool := match d with
  | .tup l => decide (l.length ≤ 5) && l.all (isStep c)
  | _ => false
theorem good_script_ok {s : Sto} {c : Int} {n : Nat} {d : D} (h : okT n d) (hn : n ≤ 60) : f_is_good_script [.int c, d] s = .ok (.bl (isScript c d)) s := by
  cases d with
  | tup l =>
    cases n with
    | zero => unfold okT at h; exact h.elim
    | succ n =>
    have hT := h
    have h := okT_tup h
    by_cases hl : l.length ≤ 5
    · have hl' : ((l.length : Int) ≤ 5) := by omega
      have key : ∀ s, lcL (.nm 2) bYes le_is_good_script_0 [some (.int c), some (.tup l), none] l s = .ok (l.map fun x => .bl (isStep c x)) s := fun s =>
        lc_map fun x hx => by
          have := is_step_ok (s := s) (c := c) (h x hx) (by omega)
          simp [le_is_good_script_0, this]
      simp [f_is_good_script, defF_ap, tyN, isiB, isScript, hl, hl', key, gAll_map]
    · have hl' : ¬ ((l.length : Int) ≤ 5) := by omega
      simp [f_is_good_script, defF_ap, tyN, isiB, isScript, hl, hl']
  | _ => first | (unfold okT at h; exact h.elim) | simp [f_is_good_script, defF_ap, tyN, isiB, isScript]
@[simp] theorem okT_int {n : Nat} {i : Int} : okT n (.int i) := by cases n <;> trivial
@[simp] theorem okT_bl {n : Nat} {i : Bool} : okT n (.bl i) := by cases n <;> trivial
@[simp] theorem okT_non {n : Nat} : okT n .non := by cases n <;> trivial
theorem okT_str {n : Nat} {x : Str} (h : x ∈ strsOk) : okT n (.str x) := by cases n <;> exact h
theorem okT_tupI {n : Nat} {l : List D} (h : ∀ y ∈ l, okT n y) (hl : l.length ≤ 20 + n := by first | (simp; done) | (simp; omega)) : okT (n + 1) (.tup l) := by unfold okT; exact ⟨hl, h⟩
theorem okT_lstI {n : Nat} {l : List D} (h : ∀ y ∈ l, okT n y) (hl : l.length ≤ 20 + n := by first | (simp; done) | (simp; omega)) : okT (n + 1) (.lst l) := by unfold okT; exact ⟨hl, h⟩
theorem okT_pair {n : Nat} {a b : D} (ha : okT n a) (hb : okT n b) : okT (n + 1) (.tup [a, b]) := okT_tupI (by simp [ha, hb])
end G

end
section
namespace G
open PySem PySem.Spec L2
/-- one of a list of whole numbers -/
theorem any_int {n : Nat} {s : Sto} {l : List Int} (h : Jar n s) (h0 : l ≠ []) (h1 : l.length < 1073741824) : ∃ i s', f__law_any [.cel n, .lst (l.map .int)] s = .ok (.int i) s' ∧ i ∈ l ∧ Jr n s s' := by
  obtain ⟨d, s', e, hd, j⟩ := any_ok (l := l.map .int) h (by simpa using h0) (by simpa using h1)
  obtain ⟨i, hi, e2⟩ := List.mem_map.mp hd
  subst e2
  exact ⟨i, s', e, hi, j⟩
/-- a moment, as drawn -/
def isMom (d : D) : Prop := ∃ t b : Int, d = .tup [.int t, .int b] ∧ -50 ≤ t ∧ t ≤ 50 ∧ 1 ≤ b ∧ b ≤ 3
theorem ediv_bd {i g : Int} (hg : 0 < g) (h : -50 ≤ i ∧ i ≤ 50) : -50 ≤ i / g ∧ i / g ≤ 50 := by
  refine ⟨(Int.le_ediv_iff_mul_le hg).mpr (by omega), ?_⟩
  have := Int.ediv_le_self (a := 50) g (by omega)
  have h2 : i / g ≤ 50 / g := Int.ediv_le_ediv hg h.2
  omega
theorem div_gcd_pos {i j : Int} (h : 0 < j) : 0 < j / (Int.gcd i j : Int) := by
  have p := gcd_pos (i := i) h
  have d := Int.gcd_dvd_right i j
  have := Int.ediv_mul_cancel d
  rcases Int.lt_or_le 0 (j / (Int.gcd i j : Int)) with q | q
  · exact q
  · exfalso
    have : j / (Int.gcd i j : Int) * (Int.gcd i j : Int) ≤ 0 := Int.mul_nonpos_of_nonpos_of_nonneg q (by omega)
    omega
theorem lowT_mom {i j : Int} (h : -50 ≤ i ∧ i ≤ 50) (h1 : 1 ≤ j ∧ j ≤ 3) : isMom (lowT i j) := by
  have p := gcd_pos (i := i) (show 0 < j by omega)
  have q := ediv_bd p h
  have r := div_gcd_pos (i := i) (show 0 < j by omega)
  have t : j / (Int.gcd i j : Int) ≤ j := Int.ediv_le_self _ (by omega)
  exact ⟨_, _, rfl, q.1, q.2, by omega, by omega⟩
theorem isMom.pure {d : D} (h : isMom d) : d.pure = true := by
  obtain ⟨t, b, e, _⟩ := h
  subst e
  rfl
theorem moments_ok {n : Nat} {s : Sto} {m : Int} (h : Jar n s) (hm : 1 ≤ m ∧ m ≤ 3) : ∃ l s', f__law_moments [.cel n, .int m] s = .ok (.tup l) s' ∧ (l.length : Int) = 2 * m ∧ (∀ d ∈ l, isMom d) ∧ Jr n s s' := by
  have hn := h.lt
  obtain ⟨r, s1, e1, r0, r1, j1⟩ := dip_ok (w := 5) h.new (by decide) (by decide) (s := newCel s [])
  obtain ⟨b, s2, e2, hb, j2⟩ := any_int (l := [1, 1, 2, 3]) j1.jar (by simp) (by simp)
  have hb' : 1 ≤ b ∧ b ≤ 3 := by simp at hb; omega
  have m1 : ∀ s, dMul s (.int 2) (.int m) = some (.int (2 * m)) := fun _ => dMul_ii (by omega) (by omega)
  have j12 := j1.trans j2
  have hne : s.cel.length ≠ n := by omega
  have c2 : s2.cel[s.cel.length]? = some [] := j12.cel hne newCel_new
  obtain ⟨env', s3, e3, hI⟩ := for_invN (body := lb__law_moments_0) (i := 5) (ds := rngD 0 (2 * m).toNat) (k := 0) (env := [some (.cel n), some (.int m), some (.cel s.cel.length), some (.int (r - 2)), some (.int b), none]) (s := s2)
    (I := fun k env s3 => ∃ (t : Int) (x : Option D) (l : List D), env = [some (.cel n), some (.int m), some (.cel s.cel.length), some (.int t), some (.int b), x] ∧ l.length = k ∧ (∀ d ∈ l, isMom d) ∧ -2 - 2 * (k : Int) ≤ t ∧ t ≤ 2 + 8 * (k : Int) ∧ s3.cel[s.cel.length]? = some l ∧ Jar n s3 ∧ s3.cel.length = s.cel.length + 1 ∧ (∀ i, i < s.cel.length → i ≠ n → s3.cel[i]? = s.cel[i]?) ∧ s3.obj = s.obj)
    ⟨r - 2, none, [], rfl, rfl, (by simp), by omega, by omega, c2, j2.jar, by rw [j12.len, newCel_len], fun i h1 h2 => by rw [j12.oth i h2, newCel_old h1], j12.obj⟩
    fun k d hd env s3 ⟨t, x, l, ee, hl, hmm, t0, t1, hc, hj, hlen, ho, hob⟩ => by
      subst ee
      have hk : k < 6 := by
        have : k < (rngD 0 (2 * m).toNat).length := (List.getElem?_eq_some_iff.mp hd).1
        rw [rngD_len0] at this
        omega
      have hmom : isMom (lowT t b) := lowT_mom (by omega) hb'
      have ap := append_ok hc hmom.pure (by omega)
      have hj2 : Jar n (setCel s3 s.cel.length (l ++ [lowT t b])) := hj.setO (by omega)
      obtain ⟨q, s4, e4, hq, j4⟩ := any_int (l := [0, 1, 2, 3, 5, 8, -2]) hj2 (by simp) (by simp)
      have hq' : -2 ≤ q ∧ q ≤ 8 := by simp at hq; omega
      have lw : ∀ s, f__law_low [.int t, .int b] s = .ok (lowT t b) s := fun s => low_ok (by omega) (by omega)
      have e4' : f__law_any [.cel n, .lst [.int 0, .int 1, .int 2, .int 3, .int 5, .int 8, .int (-2)]] (setCel s3 s.cel.length (l ++ [lowT t b])) = .ok (.int q) s4 := e4
      refine ⟨[some (.cel n), some (.int m), some (.cel s.cel.length), some (.int (t + q)), some (.int b), some d], s4, .inl ?_, t + q, some d, l ++ [lowT t b], rfl, by simp [hl], ?_, by omega, by omega, j4.cel (by omega) (setCel_at hc), j4.jar, by rw [j4.len, setCel_len, hlen], fun i h1 h2 => by rw [j4.oth i h2, setCel_ne (by omega), ho i h1 h2], by rw [j4.obj]; exact hob⟩
      · simp [lb__law_moments_0, lw, ap, e4']
      · intro y hy
        rcases List.mem_append.mp hy with hy | hy
        · exact hmm y hy
        · simp at hy; subst hy; exact hmom
  obtain ⟨t, x, l, ee, hl, hmm, t0, t1, hc, hj, hlen, ho, hob⟩ := hI
  subst ee
  rw [rngD_len0, Nat.zero_add] at hl
  have hpl : pureL l = true := pureL_of fun y hy => (hmm y hy).pure
  have e2' : f__law_any [.cel n, .lst [.int 1, .int 1, .int 2, .int 3]] s1 = .ok (.int b) s2 := e2
  refine ⟨l, cut s.cel.length s3, ?_, by omega, hmm, Jr.cut hn hj (by omega) ho hob⟩
  have g2 : -100000 ≤ 2 * m ∧ 2 * m ≤ 100000 := by omega
  have gt : gTup s3 [.cel s.cel.length] = some (.tup l) := by unfold gTup; simp [hc]
  have fzz : ∀ c, fz s.cel.length c (.tup l) = .tup l := fun c => fz_pure _ (by simpa [D.pure] using hpl)
  unfold f__law_moments
  rw [defC_ap]
  simp [e1, e2', m1, g2, e3, gt, fzz]
theorem atI_mem {l : List D} {k : Int} (h0 : 0 ≤ k) (h : k < l.length) : ∃ d ∈ l, atI l k = some d := by
  have hr : k.toNat < l.length := by omega
  exact ⟨l[k.toNat], List.getElem_mem hr, by rw [atI_nat h0 h, List.getElem?_eq_getElem hr]⟩
theorem bd_mul {a b : Int} (ha : -50 ≤ a ∧ a ≤ 50) (hb : 1 ≤ b ∧ b ≤ 3) : -150 ≤ a * b ∧ a * b ≤ 150 := by
  have : b = 1 ∨ b = 2 ∨ b = 3 := by omega
  rcases this with rfl | rfl | rfl <;> omega
theorem bd_mul2 {a b : Int} (ha : 1 ≤ a ∧ a ≤ 3) (hb : 1 ≤ b ∧ b ≤ 3) : 1 ≤ a * b ∧ a * b ≤ 9 := by
  have : b = 1 ∨ b = 2 ∨ b = 3 := by omega
  rcases this with rfl | rfl | rfl <;> omega
theorem ediv_bd3 {i g : Int} (hg : 0 < g) (h : -300 ≤ i ∧ i ≤ 300) : -300 ≤ i / g ∧ i / g ≤ 300 := by
  refine ⟨(Int.le_ediv_iff_mul_le hg).mpr (by omega), ?_⟩
  have := Int.ediv_le_self (a := 300) g (by omega)
  have h2 : i / g ≤ 300 / g := Int.ediv_le_ediv hg h.2
  omega
theorem plus_ok {s : Sto} {t1 b1 t2 b2 : Int} (h1 : -50 ≤ t1 ∧ t1 ≤ 50) (h2 : 1 ≤ b1 ∧ b1 ≤ 3) (h3 : -50 ≤ t2 ∧ t2 ≤ 50) (h4 : 1 ≤ b2 ∧ b2 ≤ 3) : ∃ x y : Int, f__law_plus [.tup [.int t1, .int b1], .tup [.int t2, .int b2]] s = .ok (.tup [.int x, .int y]) s ∧ -300 ≤ x ∧ x ≤ 300 ∧ 1 ≤ y ∧ y ≤ 9 := by
  have q1 := bd_mul h1 h4
  have q2 := bd_mul h3 h2
  have q3 := bd_mul2 h2 h4
  have m1 : ∀ s, dMul s (.int t1) (.int b2) = some (.int (t1 * b2)) := fun _ => dMul_ii (by omega) (by omega)
  have m2 : ∀ s, dMul s (.int t2) (.int b1) = some (.int (t2 * b1)) := fun _ => dMul_ii (by omega) (by omega)
  have m3 : ∀ s, dMul s (.int b1) (.int b2) = some (.int (b1 * b2)) := fun _ => dMul_ii (by omega) (by omega)
  have lw : ∀ s, f__law_low [.int (t1 * b2 + t2 * b1), .int (b1 * b2)] s = .ok (lowT (t1 * b2 + t2 * b1) (b1 * b2)) s := fun s => low_ok (by omega) (by omega)
  have r := div_gcd_pos (i := t1 * b2 + t2 * b1) (show 0 < b1 * b2 by omega)
  have t : b1 * b2 / (Int.gcd (t1 * b2 + t2 * b1) (b1 * b2) : Int) ≤ b1 * b2 := Int.ediv_le_self _ (by omega)
  have qq := ediv_bd3 (gcd_pos (i := t1 * b2 + t2 * b1) (show 0 < b1 * b2 by omega)) (i := t1 * b2 + t2 * b1) (by omega)
  refine ⟨(t1 * b2 + t2 * b1) / (Int.gcd (t1 * b2 + t2 * b1) (b1 * b2) : Nat), b1 * b2 / (Int.gcd (t1 * b2 + t2 * b1) (b1 * b2) : Nat), ?_, qq.1, qq.2, by omega, by omega⟩
  unfold f__law_plus
  rw [defF_ap]
  simp [m1, m2, m3, lw, lowT]
/-- a gap, as drawn -/
def isGapD (m : Int) (d : D) : Prop := ∃ i j v : Int, d = .tup [.int i, .int j, .int v] ∧ 0 ≤ i ∧ i < 2 * m ∧ 0 ≤ j ∧ j < 2 * m ∧ i ≠ j ∧ -400 ≤ v ∧ v ≤ 400
theorem isGapD.ok {m : Int} {d : D} (h : isGapD m d) : isGap m d = true ∧ okT 1 d := by
  obtain ⟨i, j, v, e, h1, h2, h3, h4, h5, h6, h7⟩ := h
  subst e
  refine ⟨?_, okT_tupI (by simp)⟩
  have a1 : i ≤ 2 * m - 1 := by omega
  have a2 : j ≤ 2 * m - 1 := by omega
  have a3 : -1000 ≤ v := by omega
  have a4 : v ≤ 1000 := by omega
  simp [isGap, isFrom, h1, a1, h3, a2, a3, a4, h5]
theorem gap_ok {n : Nat} {s : Sto} {m : Int} {l : List D} (h : Jar n s) (hm : 1 ≤ m ∧ m ≤ 3) (hl : (l.length : Int) = 2 * m) (hmm : ∀ d ∈ l, isMom d) : ∃ d s', f__law_gap [.cel n, .int m, .tup l] s = .ok d s' ∧ isGapD m d ∧ Jr n s s' := by
  have m1 : ∀ s, dMul s (.int 2) (.int m) = some (.int (2 * m)) := fun _ => dMul_ii (by omega) (by omega)
  obtain ⟨a, s1, e1, a0, a1, j1⟩ := dip_ok (w := 2 * m) h (by omega) (by omega)
  obtain ⟨b, s2, e2, b0, b1, j2⟩ := dip_ok (w := 2 * m - 1) j1.jar (by omega) (by omega)
  have c0 : 0 ≤ (a + 1 + b) % (2 * m) := Int.emod_nonneg _ (by omega)
  have c1 : (a + 1 + b) % (2 * m) < 2 * m := Int.emod_lt_of_pos _ (by omega)
  have cne : a ≠ (a + 1 + b) % (2 * m) := by
    have : m = 1 ∨ m = 2 ∨ m = 3 := by omega
    rcases this with rfl | rfl | rfl <;> omega
  generalize hc : (a + 1 + b) % (2 * m) = c at c0 c1 cne
  obtain ⟨da, hda, ea⟩ := atI_mem (l := l) a0 (by omega)
  obtain ⟨dc, hdc, ec⟩ := atI_mem (l := l) c0 (by omega)
  obtain ⟨ta, ba, ra, x1, x2, x3, x4⟩ := hmm da hda
  obtain ⟨tc, bc, rc, y1, y2, y3, y4⟩ := hmm dc hdc
  subst ra rc
  obtain ⟨x, y, ep, hx1, hx2, hy1, hy2⟩ := plus_ok (s := s2) (t1 := tc) (b1 := bc) (t2 := -ta) (b2 := ba) (by omega) (by omega) (by omega) (by omega)
  obtain ⟨q, s3, e3, hq, j3⟩ := any_int (l := [0, 0, 1, 3]) j2.jar (by simp) (by simp)
  obtain ⟨r, s4, e4, r0, r1, j4⟩ := dip_ok (w := 8) j3.jar (by decide) (by decide)
  obtain ⟨u, s5, e5, u0, u1, j5⟩ := dip_ok (w := 9) j4.jar (by decide) (by decide)
  have e3' : f__law_any [.cel n, .lst [.int 0, .int 0, .int 1, .int 3]] s2 = .ok (.int q) s3 := e3
  have md : ∀ s, dMod s (.int (a + 1 + b)) (.int (2 * m)) = some (.int c) := fun s => by rw [dMod_ii (by omega), hc]
  have fd : ∀ s, dFdiv s (.int x) (.int y) = some (.int (x / y)) := fun s => dFdiv_ii (by omega) (by omega)
  have hxy := ediv_bd3 (g := y) (i := x) (by omega) ⟨hx1, hx2⟩
  have hq2 : 0 ≤ q ∧ q ≤ 3 := by simp at hq; omega
  by_cases hr : 0 < r
  · refine ⟨.tup [.int a, .int c, .int (x / y - q)], s4, ?_, ⟨_, _, _, rfl, a0, a1, c0, c1, cne, by omega, by omega⟩, ((j1.trans j2).trans j3).trans j4⟩
    unfold f__law_gap
    rw [defF_ap]
    simp [m1, e1, e2, md, ea, ec, ep, fd, e3', e4, hr]
  · refine ⟨.tup [.int a, .int c, .int (u - 4)], s5, ?_, ⟨_, _, _, rfl, a0, a1, c0, c1, cne, by omega, by omega⟩, (((j1.trans j2).trans j3).trans j4).trans j5⟩
    unfold f__law_gap
    rw [defF_ap]
    simp [m1, e1, e2, md, ea, ec, ep, fd, e3', e4, hr, e5]
theorem book_ok {n : Nat} {s : Sto} {m k : Int} (h : Jar n s) (hm : 1 ≤ m ∧ m ≤ 3) (hk : 0 ≤ k ∧ k ≤ 10) : ∃ ys s', f__law_book [.cel n, .int m, .int k] s = .ok (.tup [.int m, .tup ys]) s' ∧ (ys.length : Int) ≤ k ∧ (∀ y ∈ ys, isGapD m y) ∧ Jr n s s' := by
  obtain ⟨l, s1, e1, hl, hmm, j1⟩ := moments_ok h hm
  obtain ⟨r, s2, e2, r0, r1, j2⟩ := dip_ok (w := k + 1) j1.jar (by omega) (by omega)
  have hr : -100000 ≤ r ∧ r ≤ 100000 := by omega
  obtain ⟨ys, s3, e3, i3, l3, p3⟩ := lc_inv (f := le__law_book_0) (i := 4) (env := [some (.cel n), some (.int m), some (.int k), some (.tup l), none]) (I := fun s3 => Jr n s2 s3) (P := isGapD m) (ds := rngD 0 r.toNat) (Jr.refl j2.jar) fun d hd s3 j3 => by
    obtain ⟨g, s4, e4, hg, j4⟩ := gap_ok j3.jar hm hl hmm
    exact ⟨g, s4, by simp [le__law_book_0, e4], j3.trans j4, hg⟩
  refine ⟨ys, s3, ?_, by rw [l3, rngD_len0]; omega, p3, (j1.trans j2).trans i3⟩
  unfold f__law_book
  rw [defF_ap]
  simp [e1, e2, hr, e3]
theorem any_str {n : Nat} {s : Sto} {l : List Str} (h : Jar n s) (h0 : l ≠ []) (h1 : l.length < 1073741824) : ∃ i s', f__law_any [.cel n, .lst (l.map .str)] s = .ok (.str i) s' ∧ i ∈ l ∧ Jr n s s' := by
  obtain ⟨d, s', e, hd, j⟩ := any_ok (l := l.map .str) h (by simpa using h0) (by simpa using h1)
  obtain ⟨i, hi, e2⟩ := List.mem_map.mp hd
  subst e2
  exact ⟨i, s', e, hi, j⟩
/-- a step, as drawn -/
def isStepD (m : Int) (d : D) : Prop := (∃ c v : Int, d = .tup [.str "shift", .int c, .int v] ∧ 0 ≤ c ∧ c < m ∧ -10 ≤ v ∧ v ≤ 10) ∨ ∃ (x : Str) (v : Int), x ∈ (["later", "earlier", "longer", "shorter"] : List Str) ∧ d = .tup [.str x, .int v] ∧ 0 ≤ v ∧ v ≤ 10
theorem step_ok {n : Nat} {s : Sto} {m : Int} (h : Jar n s) (hm : 1 ≤ m ∧ m ≤ 3) : ∃ d s', f__law_step [.cel n, .int m] s = .ok d s' ∧ isStepD m d ∧ Jr n s s' := by
  obtain ⟨a, s1, e1, a0, a1, j1⟩ := dip_ok (w := 6) h (by omega) (by omega)
  by_cases ha : a = 0
  · subst ha
    obtain ⟨b, s2, e2, b0, b1, j2⟩ := dip_ok (w := m) j1.jar (by omega) (by omega)
    obtain ⟨c, s3, e3, c0, c1, j3⟩ := dip_ok (w := 9) j2.jar (by omega) (by omega)
    refine ⟨.tup [.str "shift", .int b, .int (c - 4)], s3, ?_, .inl ⟨_, _, rfl, b0, b1, by omega, by omega⟩, (j1.trans j2).trans j3⟩
    unfold f__law_step
    rw [defF_ap]
    simp [e1, e2, e3, dEq]
  · obtain ⟨x, s2, e2, hx, j2⟩ := any_str (l := ["later", "later", "earlier", "longer", "shorter"]) j1.jar (by simp) (by simp)
    obtain ⟨q, s3, e3, hq, j3⟩ := any_int (l := [0, 1, 2, 3, 5]) j2.jar (by simp) (by simp)
    have e2' : f__law_any [.cel n, .lst [.str "later", .str "later", .str "earlier", .str "longer", .str "shorter"]] s1 = .ok (.str x) s2 := e2
    have e3' : f__law_any [.cel n, .lst [.int 0, .int 1, .int 2, .int 3, .int 5]] s2 = .ok (.int q) s3 := e3
    have hx' : x ∈ (["later", "earlier", "longer", "shorter"] : List Str) := by
      simp at hx ⊢
      exact hx
    have hq' : 0 ≤ q ∧ q ≤ 5 := by simp at hq; omega
    refine ⟨.tup [.str x, .int q], s3, ?_, .inr ⟨x, q, hx', rfl, by omega, by omega⟩, (j1.trans j2).trans j3⟩
    unfold f__law_step
    rw [defF_ap]
    simp [e1, dEq, ha, e2', e3']
theorem steps_ok {n : Nat} {s : Sto} {m k : Int} (h : Jar n s) (hm : 1 ≤ m ∧ m ≤ 3) (hk : 0 ≤ k ∧ k ≤ 10) : ∃ ys s', f__law_steps [.cel n, .int m, .int k] s = .ok (.tup ys) s' ∧ (ys.length : Int) ≤ k ∧ (∀ y ∈ ys, isStepD m y) ∧ Jr n s s' := by
  obtain ⟨r, s2, e2, r0, r1, j2⟩ := dip_ok (w := k + 1) h (by omega) (by omega)
  have hr : -100000 ≤ r ∧ r ≤ 100000 := by omega
  obtain ⟨ys, s3, e3, i3, l3, p3⟩ := lc_inv (f := le__law_steps_0) (i := 3) (env := [some (.cel n), some (.int m), some (.int k), none]) (I := fun s3 => Jr n s2 s3) (P := isStepD m) (ds := rngD 0 r.toNat) (Jr.refl j2.jar) fun d hd s3 j3 => by
    obtain ⟨g, s4, e4, hg, j4⟩ := step_ok j3.jar hm
    exact ⟨g, s4, by simp [le__law_steps_0, e4], j3.trans j4, hg⟩
  refine ⟨ys, s3, ?_, by rw [l3, rngD_len0]; omega, p3, j2.trans i3⟩
  unfold f__law_steps
  rw [defF_ap]
  simp [e2, hr, e3]
end G

end
section
namespace G
open PySem PySem.Spec L2
theorem pureL_map {α : Type} {g : α → D} (h : ∀ x, (g x).pure = true) : ∀ l : List α, pureL (l.map g) = true
  | [] => by simp [pureL]
  | x :: l => by rw [List.map_cons, pureL, h, pureL_map h l]; rfl
end G

end
section
namespace G
open PySem PySem.Spec L2
/-! ### steps, forms, rows -/
inductive Sp where
  | sh (c : Nat) (v : Int) | la (v : Int) | ea (v : Int) | lo (v : Int) | so (v : Int)
def spT : Sp → D
  | .sh c v => .tup [.str "shift", .int c, .int v]
  | .la v => .tup [.str "later", .int v]
  | .ea v => .tup [.str "earlier", .int v]
  | .lo v => .tup [.str "longer", .int v]
  | .so v => .tup [.str "shorter", .int v]
def Sp.ok (m : Nat) : Sp → Prop
  | .sh c v => c < m ∧ -10 ≤ v ∧ v ≤ 10
  | .la v => 0 ≤ v ∧ v ≤ 10
  | .ea v => 0 ≤ v ∧ v ≤ 10
  | .lo v => 0 ≤ v ∧ v ≤ 10
  | .so v => 0 ≤ v ∧ v ≤ 10
theorem isStepD.sp {m : Nat} {d : D} (h : isStepD m d) : ∃ s : Sp, d = spT s ∧ s.ok m := by
  rcases h with ⟨c, v, e, h1, h2, h3, h4⟩ | ⟨x, v, hx, e, h1, h2⟩
  · obtain ⟨k, rfl⟩ := Int.eq_ofNat_of_zero_le h1
    exact ⟨.sh k v, e, by unfold Sp.ok; omega⟩
  · simp at hx
    rcases hx with rfl | rfl | rfl | rfl
    · exact ⟨.la v, e, h1, h2⟩
    · exact ⟨.ea v, e, h1, h2⟩
    · exact ⟨.lo v, e, h1, h2⟩
    · exact ⟨.so v, e, h1, h2⟩
theorem isStepDs {m : Nat} : ∀ {l : List D}, (∀ d ∈ l, isStepD m d) → ∃ ss : List Sp, l = ss.map spT ∧ ∀ s ∈ ss, s.ok m
  | [], _ => ⟨[], rfl, fun _ h => nomatch h⟩
  | d :: l, h => by
    obtain ⟨s, e, hs⟩ := (h d (List.mem_cons_self ..)).sp
    obtain ⟨ss, e2, hss⟩ := isStepDs (l := l) fun z hz => h z (List.mem_cons_of_mem _ hz)
    exact ⟨s :: ss, by rw [e, e2]; rfl, fun z hz => by
      rcases List.mem_cons.mp hz with q | q
      · rw [q]; exact hs
      · exact hss z q⟩
/-- a test: which, against which, by; put where, of which, by -/
structure Tst where
  a : Nat
  b : Nat
  n : Int
  at_ : Nat
  s : Nat
  k : Int
def tD (t : Tst) : D := .tup [.int t.a, .int t.b, .int t.n, .int t.at_, .int t.s, .int t.k]
def cuesOf (m : Nat) : Sp → List Nat
  | .sh _ _ => []
  | .la _ => (List.range m).drop 1
  | .ea _ => (List.range m).take (m - 1)
  | .lo _ => List.range m
  | .so _ => List.range m
def tstOf : Sp → Nat → Tst
  | .sh _ _, c => ⟨c, c, 0, c, c, 0⟩
  | .la v, c => ⟨2 * c - 1, 2 * c, v, 2 * c, 2 * c - 1, v⟩
  | .ea v, c => ⟨2 * c + 1, 2 * c + 2, v, 2 * c + 1, 2 * c + 2, 0 - v⟩
  | .lo v, c => ⟨2 * c, 2 * c + 1, v, 2 * c + 1, 2 * c, v⟩
  | .so v, c => ⟨2 * c + 1, 2 * c, 0 - v, 2 * c + 1, 2 * c, v⟩
def testsL (m : Nat) (s : Sp) : List Tst := (cuesOf m s).map (tstOf s)
theorem rng1 : rngD 0 1 = [.int 0] := rfl
theorem rng2 : rngD 0 2 = [.int 0, .int 1] := rfl
theorem rng3 : rngD 0 3 = [.int 0, .int 1, .int 2] := rfl
@[simp] theorem atI_m1 {α : Type} {d e : α} : atI [d, e] (-1) = some e := by unfold atI ixN; simp
@[simp] theorem atI_m13 {α : Type} {d e f : α} : atI [d, e, f] (-1) = some f := by unfold atI ixN; simp
theorem gSl_lst {s : Sto} {l : List D} {lo hi : Option Int} : gSl s (.lst l) lo hi = some (.lst (cutD l lo hi)) := rfl
theorem dEq_ss {s : Sto} {x y : Str} (hx : okD (.str x) = true) (hy : okD (.str y) = true) : dEq s (.str x) (.str y) = some (.bl (x == y)) := by
  simp [dEq, hx, hy]
theorem okD_later : okD (.str "later") = true := by decide +kernel
theorem okD_earlier : okD (.str "earlier") = true := by decide +kernel
theorem okD_longer : okD (.str "longer") = true := by decide +kernel
theorem okD_shorter : okD (.str "shorter") = true := by decide +kernel
theorem c1a : cutD [.int 0] (some 1) none = [] := rfl
theorem c2a : cutD [.int 0, .int 1] (some 1) none = [.int 1] := rfl
theorem c3a : cutD [.int 0, .int 1, .int 2] (some 1) none = [.int 1, .int 2] := rfl
theorem c1b : cutD [.int 0] none (some (-1)) = [] := rfl
theorem c2b : cutD [.int 0, .int 1] none (some (-1)) = [.int 0] := rfl
theorem c3b : cutD [.int 0, .int 1, .int 2] none (some (-1)) = [.int 0, .int 1] := rfl
theorem mul2 {s : Sto} {j : Int} : dMul s (.int 2) (.int j) = some (.int (2 * j)) := by
  unfold dMul
  simp [smallI]
@[simp] theorem ne_shift_later : ((Str.ofString "shift") = (Str.ofString "later")) = False := eq_false (by decide +kernel)
@[simp] theorem ne_shift_earlier : ((Str.ofString "shift") = (Str.ofString "earlier")) = False := eq_false (by decide +kernel)
@[simp] theorem ne_shift_longer : ((Str.ofString "shift") = (Str.ofString "longer")) = False := eq_false (by decide +kernel)
@[simp] theorem ne_shift_shorter : ((Str.ofString "shift") = (Str.ofString "shorter")) = False := eq_false (by decide +kernel)
@[simp] theorem ne_later_shift : ((Str.ofString "later") = (Str.ofString "shift")) = False := eq_false (by decide +kernel)
@[simp] theorem ne_later_earlier : ((Str.ofString "later") = (Str.ofString "earlier")) = False := eq_false (by decide +kernel)
@[simp] theorem ne_later_longer : ((Str.ofString "later") = (Str.ofString "longer")) = False := eq_false (by decide +kernel)
@[simp] theorem ne_later_shorter : ((Str.ofString "later") = (Str.ofString "shorter")) = False := eq_false (by decide +kernel)
@[simp] theorem ne_earlier_shift : ((Str.ofString "earlier") = (Str.ofString "shift")) = False := eq_false (by decide +kernel)
@[simp] theorem ne_earlier_later : ((Str.ofString "earlier") = (Str.ofString "later")) = False := eq_false (by decide +kernel)
@[simp] theorem ne_earlier_longer : ((Str.ofString "earlier") = (Str.ofString "longer")) = False := eq_false (by decide +kernel)
@[simp] theorem ne_earlier_shorter : ((Str.ofString "earlier") = (Str.ofString "shorter")) = False := eq_false (by decide +kernel)
@[simp] theorem ne_longer_shift : ((Str.ofString "longer") = (Str.ofString "shift")) = False := eq_false (by decide +kernel)
@[simp] theorem ne_longer_later : ((Str.ofString "longer") = (Str.ofString "later")) = False := eq_false (by decide +kernel)
@[simp] theorem ne_longer_earlier : ((Str.ofString "longer") = (Str.ofString "earlier")) = False := eq_false (by decide +kernel)
@[simp] theorem ne_longer_shorter : ((Str.ofString "longer") = (Str.ofString "shorter")) = False := eq_false (by decide +kernel)
@[simp] theorem ne_shorter_shift : ((Str.ofString "shorter") = (Str.ofString "shift")) = False := eq_false (by decide +kernel)
@[simp] theorem ne_shorter_later : ((Str.ofString "shorter") = (Str.ofString "later")) = False := eq_false (by decide +kernel)
@[simp] theorem ne_shorter_earlier : ((Str.ofString "shorter") = (Str.ofString "earlier")) = False := eq_false (by decide +kernel)
@[simp] theorem ne_shorter_longer : ((Str.ofString "shorter") = (Str.ofString "longer")) = False := eq_false (by decide +kernel)
theorem tests_of_ok {m : Nat} {s : Sp} {st : Sto} (hm : m = 1 ∨ m = 2 ∨ m = 3) : f_tests_of [.int m, spT s] st = .ok (.lst ((testsL m s).map tD)) st := by
  rcases hm with rfl | rfl | rfl <;> cases s <;>
    simp [f_tests_of, defF_ap, spT, rng1, rng2, rng3, gSl_lst, c1a, c2a, c3a, c1b, c2b, c3b, dEq_ss, okD_shift, okD_later, okD_earlier, okD_longer, okD_shorter, lcL_c, le_tests_of_0, le_tests_of_1, le_tests_of_2, le_tests_of_3, mul2, testsL, cuesOf, tstOf, tD, List.range, List.range.loop]
def Tst.ok (n : Nat) (t : Tst) : Prop := t.a < n ∧ t.b < n ∧ t.at_ < n ∧ t.s < n
theorem testsL_ok {m : Nat} {s : Sp} {t : Tst} (hm : m = 1 ∨ m = 2 ∨ m = 3) (h : t ∈ testsL m s) : t.ok (2 * m) := by
  unfold testsL at h
  obtain ⟨c, hc, e⟩ := List.mem_map.mp h
  subst e
  cases s with
  | sh _ _ => simp [cuesOf] at hc
  | la v =>
    have : 1 ≤ c ∧ c < m := by
      rcases hm with rfl | rfl | rfl <;> simp [cuesOf, List.range, List.range.loop] at hc <;> omega
    unfold Tst.ok tstOf; simp; omega
  | ea v =>
    have : c + 1 < m := by
      rcases hm with rfl | rfl | rfl <;> simp [cuesOf, List.range, List.range.loop] at hc <;> omega
    unfold Tst.ok tstOf; simp; omega
  | lo v =>
    have : c < m := by simpa [cuesOf] using hc
    unfold Tst.ok tstOf; simp; omega
  | so v =>
    have : c < m := by simpa [cuesOf] using hc
    unfold Tst.ok tstOf; simp; omega
end G

end
section
namespace G
open PySem PySem.Spec L2
abbrev Gp := Int × Int × Int
def gpD (g : Gp) : D := .tup [.int g.1, .int g.2.1, .int g.2.2]
def Gp.ok (m : Nat) (g : Gp) : Prop := isGapD m (gpD g)
theorem isGapDs {m : Nat} : ∀ {l : List D}, (∀ d ∈ l, isGapD m d) → ∃ gs : List Gp, l = gs.map gpD ∧ ∀ g ∈ gs, Gp.ok m g
  | [], _ => ⟨[], rfl, fun _ h => nomatch h⟩
  | d :: l, h => by
    have hd := h d (List.mem_cons_self ..)
    obtain ⟨i, j, v, e, _⟩ := id hd
    obtain ⟨gs, e2, hgs⟩ := isGapDs (l := l) fun z hz => h z (List.mem_cons_of_mem _ hz)
    subst e
    exact ⟨(i, j, v) :: gs, by rw [e2]; rfl, fun z hz => by
      rcases List.mem_cons.mp hz with q | q
      · rw [q]; exact hd
      · exact hgs z q⟩
def bookD (m : Nat) (gs : List Gp) : D := .tup [.int m, .tup (gs.map gpD)]
def scrD (ss : List Sp) : D := .tup (ss.map spT)
theorem spT_ok {m : Nat} {sp : Sp} (h : sp.ok m) (hm : m ≤ 3) : isStep m (spT sp) = true ∧ okT 2 (spT sp) := by
  have a1 : okT 1 (.str "shift") := okT_str (by decide)
  have a2 : okT 1 (.str "later") := okT_str (by decide)
  have a3 : okT 1 (.str "earlier") := okT_str (by decide)
  have a4 : okT 1 (.str "longer") := okT_str (by decide)
  have a5 : okT 1 (.str "shorter") := okT_str (by decide)
  cases sp with
  | sh c v =>
    unfold Sp.ok at h
    refine ⟨?_, okT_tupI (by simp [a1])⟩
    have b1 : (c : Int) ≤ m - 1 := by omega
    have b2 : (-1000 : Int) ≤ v := by omega
    have b3 : v ≤ 1000 := by omega
    simp [spT, isStep, isFrom, b1, b2, b3]
  | la v =>
    unfold Sp.ok at h
    refine ⟨?_, okT_pair a2 okT_int⟩
    have b3 : v ≤ 1000 := by omega
    simp [spT, isStep, isFrom, h.1, b3, words4]
  | ea v =>
    unfold Sp.ok at h
    refine ⟨?_, okT_pair a3 okT_int⟩
    have b3 : v ≤ 1000 := by omega
    simp [spT, isStep, isFrom, h.1, b3, words4]
  | lo v =>
    unfold Sp.ok at h
    refine ⟨?_, okT_pair a4 okT_int⟩
    have b3 : v ≤ 1000 := by omega
    simp [spT, isStep, isFrom, h.1, b3, words4]
  | so v =>
    unfold Sp.ok at h
    refine ⟨?_, okT_pair a5 okT_int⟩
    have b3 : v ≤ 1000 := by omega
    simp [spT, isStep, isFrom, h.1, b3, words4]
theorem book_is {m : Nat} {gs : List Gp} (hm : m = 1 ∨ m = 2 ∨ m = 3) (hg : gs.length ≤ 6) (hgs : ∀ g ∈ gs, Gp.ok m g) : isBook (bookD m gs) = true ∧ okT 3 (bookD m gs) := by
  have h1 : (1 : Int) ≤ m := by omega
  have h3 : (m : Int) ≤ 3 := by omega
  refine ⟨?_, okT_tupI ?_⟩
  · have : (gs.map gpD).all (isGap (m : Int)) = true := by
      rw [List.all_eq_true]
      intro d hd
      obtain ⟨g, hg', e⟩ := List.mem_map.mp hd
      rw [← e]
      exact (hgs g hg').ok.1
    unfold bookD isBook
    simp only [isFrom, gapsOk, cOf, this, List.length_map, hg, h1, h3]
    rfl
  · intro y hy
    simp at hy
    rcases hy with rfl | rfl
    · exact okT_int
    · refine okT_tupI (fun d hd => ?_) (by simp; omega)
      obtain ⟨g, hg', e⟩ := List.mem_map.mp hd
      rw [← e]
      exact (hgs g hg').ok.2
theorem scr_is {m : Nat} {ss : List Sp} (hm : m ≤ 3) (hl : ss.length ≤ 5) (hs : ∀ s ∈ ss, s.ok m) : isScript m (scrD ss) = true ∧ okT 3 (scrD ss) := by
  refine ⟨?_, okT_tupI (fun d hd => ?_) (by simp; omega)⟩
  · have : (ss.map spT).all (isStep (m : Int)) = true := by
      rw [List.all_eq_true]
      intro d hd
      obtain ⟨g, hg', e⟩ := List.mem_map.mp hd
      rw [← e]
      exact (spT_ok (hs g hg') hm).1
    unfold scrD isScript
    simp only [this, List.length_map, hl]
    rfl
  · obtain ⟨g, hg', e⟩ := List.mem_map.mp hd
    rw [← e]
    exact (spT_ok (hs g hg') hm).2
theorem needs_ok {m : Nat} {gs : List Gp} {ss : List Sp} {s : Sto} (hm : m = 1 ∨ m = 2 ∨ m = 3) (hg : gs.length ≤ 6) (hgs : ∀ g ∈ gs, Gp.ok m g) (hl : ss.length ≤ 5) (hs : ∀ s ∈ ss, s.ok m) : f_need_book [bookD m gs] s = .ok .non s ∧ f_need_script [.int m, scrD ss] s = .ok .non s := by
  obtain ⟨b1, b2⟩ := book_is hm hg hgs
  obtain ⟨c1, c2⟩ := scr_is (by omega : m ≤ 3) hl hs
  constructor
  · simp [f_need_book, defF_ap, good_book_ok b2 (by omega), b1]
  · simp [f_need_script, defF_ap, good_script_ok c2 (by omega), c1]
structure Case (m : Nat) (gs : List Gp) (ss : List Sp) : Prop where
  hm : m = 1 ∨ m = 2 ∨ m = 3
  hg : gs.length ≤ 6
  hgs : ∀ g ∈ gs, Gp.ok m g
  hl : ss.length ≤ 5
  hs : ∀ s ∈ ss, s.ok m
end G

end
section
namespace G
open PySem PySem.Spec L2
/-! ### told moments, the law's own run -/
abbrev Mo := Int × Int
def mD (p : Mo) : D := .tup [.int p.1, .int p.2]
def lowM (x y : Int) : Mo := (x / (Int.gcd x y : Nat), y / (Int.gcd x y : Nat))
def moreM (p : Mo) (n : Int) : Mo := lowM (p.1 * 1 + n * p.2) (p.2 * 1)
def ltM (p q : Mo) : Bool := decide (p.1 * q.2 < q.1 * p.2)
def MOk (p : Mo) : Prop := 0 < p.2 ∧ p.2 ≤ 1048576
def mAt (M : List Mo) (i : Nat) : Mo := M.getD i (0, 1)
structure MS where
  M : List Mo
  w : List Bool
def lateT (M : List Mo) (t : Tst) : Bool := ltM (mAt M t.b) (moreM (mAt M t.a) t.n)
def goM (x : MS) (t : Tst) : MS := ⟨if lateT x.M t = true then x.M.set t.at_ (moreM (mAt x.M t.s) t.k) else x.M, x.w ++ [lateT x.M t]⟩
def shMK (c : Nat) (v : Int) : Nat → List Mo → List Mo
  | _, [] => []
  | k, p :: F => (if 2 * c ≤ k then moreM p v else p) :: shMK c v (k + 1) F
def shM (s : Sp) (x : MS) : MS := match s with
  | .sh c v => ⟨shMK c v 0 x.M, x.w⟩
  | _ => x
def runSt (m : Nat) (x : MS) (s : Sp) : MS := (testsL m s).foldl goM (shM s x)
def runM (m : Nat) (ss : List Sp) (M : List Mo) : MS := ss.foldl (runSt m) ⟨M, []⟩
theorem lowM_ok {x y : Int} (h : 0 < y ∧ y ≤ 1048576) : MOk (lowM x y) := by
  have hg := gcd_pos (i := x) h.1
  have hl := gcd_le (i := x) h.1
  have hd := Int.gcd_dvd_right x y
  unfold lowM MOk
  simp only
  refine ⟨Int.ediv_pos_of_pos_of_dvd h.1 (by omega) hd, ?_⟩
  have := Int.ediv_le_self (b := (Int.gcd x y : Int)) (a := y) (by omega)
  omega
theorem moreM_ok {p : Mo} {n : Int} (h : MOk p) : MOk (moreM p n) := lowM_ok (by obtain ⟨h1, h2⟩ := h; omega)
theorem mAt_ok {M : List Mo} (h : ∀ p ∈ M, MOk p) (i : Nat) : MOk (mAt M i) := by
  unfold mAt
  rw [List.getD_eq_getElem?_getD]
  cases e : M[i]? with
  | none => exact ⟨by decide, by decide⟩
  | some p => exact h p (List.mem_of_getElem? e)
/-- a quotient in lowest terms is the quotient -/
theorem lowM_eq {x y : Int} (h : 0 < y) : ∃ g : Int, 0 < g ∧ x = g * (lowM x y).1 ∧ y = g * (lowM x y).2 := by
  refine ⟨(Int.gcd x y : Nat), gcd_pos h, ?_, ?_⟩
  · exact (Int.mul_ediv_cancel' (Int.gcd_dvd_left x y)).symm
  · exact (Int.mul_ediv_cancel' (Int.gcd_dvd_right x y)).symm
theorem ltM_lowR {p : Mo} {x y : Int} (h : 0 < y) : ltM p (lowM x y) = decide (p.1 * y < x * p.2) := by
  obtain ⟨g, hg, e1, e2⟩ := lowM_eq (x := x) h
  unfold ltM
  congr 1
  generalize lowM x y = q at *
  rw [e1, e2, Int.mul_left_comm, Int.mul_assoc]
  exact propext ⟨fun h => Int.mul_lt_mul_of_pos_left h hg, fun h => Int.lt_of_mul_lt_mul_left h (Int.le_of_lt hg)⟩
theorem ltM_lowL {p : Mo} {x y : Int} (h : 0 < y) : ltM (lowM x y) p = decide (x * p.2 < p.1 * y) := by
  obtain ⟨g, hg, e1, e2⟩ := lowM_eq (x := x) h
  unfold ltM
  congr 1
  generalize lowM x y = q at *
  rw [e1, e2, Int.mul_left_comm p.1, Int.mul_assoc]
  exact propext ⟨fun h => Int.mul_lt_mul_of_pos_left h hg, fun h => Int.lt_of_mul_lt_mul_left h (Int.le_of_lt hg)⟩
theorem ltM_moreR {p q : Mo} {n : Int} (h : MOk q) : ltM p (moreM q n) = decide (p.1 * q.2 < (q.1 + n * q.2) * p.2) := by
  unfold moreM
  rw [ltM_lowR (by have := h.1; omega), Int.mul_one, Int.mul_one]
theorem ltM_moreL {p q : Mo} {n : Int} (h : MOk q) : ltM (moreM q n) p = decide ((q.1 + n * q.2) * p.2 < p.1 * q.2) := by
  unfold moreM
  rw [ltM_lowL (by have := h.1; omega), Int.mul_one, Int.mul_one]
theorem shorter_same {p q : Mo} {v : Int} (hp : MOk p) (hq : MOk q) : ltM (moreM p v) q = ltM p (moreM q (0 - v)) := by
  rw [ltM_moreL hp, ltM_moreR hq]
  congr 1
  have e1 : (p.1 + v * p.2) * q.2 = p.1 * q.2 + v * (p.2 * q.2) := by rw [Int.add_mul, Int.mul_assoc]
  have e2 : (q.1 + (0 - v) * q.2) * p.2 = q.1 * p.2 - v * (p.2 * q.2) := by rw [Int.add_mul, Int.zero_sub, Int.neg_mul, Int.neg_mul, Int.mul_assoc, Int.mul_comm q.2 p.2]; rfl
  rw [e1, e2]
  exact propext ⟨fun h => by omega, fun h => by omega⟩
theorem law_plus_ok {s : Sto} {p q : Mo} (hp : MOk p) (hq : MOk q) : f__law_plus [mD p, mD q] s = .ok (mD (lowM (p.1 * q.2 + q.1 * p.2) (p.2 * q.2))) s := by
  obtain ⟨h1, h2⟩ := hp
  obtain ⟨h3, h4⟩ := hq
  have m1 : ∀ s, dMul s (.int p.1) (.int q.2) = some (.int (p.1 * q.2)) := fun s => dMul_iR (by omega)
  have m2 : ∀ s, dMul s (.int q.1) (.int p.2) = some (.int (q.1 * p.2)) := fun s => dMul_iR (by omega)
  have m3 : ∀ s, dMul s (.int p.2) (.int q.2) = some (.int (p.2 * q.2)) := fun s => dMul_iR (by omega)
  have hb : p.2 * q.2 ≤ 1048576 * 1048576 := Int.mul_le_mul h2 h4 (by omega) (by omega)
  have lo := low_ok (s := s) (i := p.1 * q.2 + q.1 * p.2) (j := p.2 * q.2) (Int.mul_pos h1 h3) (by omega)
  simp [f__law_plus, defF_ap, mD, m1, m2, m3, lo]
  rfl
theorem law_more_ok {s : Sto} {p : Mo} {n : Int} (h : MOk p) : f__law_more [mD p, .int n] s = .ok (mD (moreM p n)) s := by
  have := law_plus_ok (s := s) (p := p) (q := (n, 1)) h ⟨by show (0 : Int) < 1; decide, by show (1 : Int) ≤ 1048576; decide⟩
  have e : mD (n, 1) = .tup [.int n, .int 1] := rfl
  rw [e] at this
  simp [f__law_more, defF_ap, this, moreM]
theorem law_below_ok {s : Sto} {p q : Mo} (hp : MOk p) (hq : MOk q) : f__law_below [mD p, mD q] s = .ok (.bl (ltM p q)) s := by
  obtain ⟨h1, h2⟩ := hp
  obtain ⟨h3, h4⟩ := hq
  have m1 : ∀ s, dMul s (.int p.1) (.int q.2) = some (.int (p.1 * q.2)) := fun s => dMul_iR (by omega)
  have m2 : ∀ s, dMul s (.int q.1) (.int p.2) = some (.int (q.1 * p.2)) := fun s => dMul_iR (by omega)
  simp [f__law_below, defF_ap, mD, m1, m2, ltM]
theorem mD_pure {p : Mo} : (mD p).pure = true := rfl
def spK : Sp → Str
  | .sh _ _ => "shift"
  | .la _ => "later"
  | .ea _ => "earlier"
  | .lo _ => "longer"
  | .so _ => "shorter"
def spV : Sp → Int
  | .sh _ v => v
  | .la v => v
  | .ea v => v
  | .lo v => v
  | .so v => v
/-- whether a step compares at a cue -/
def inCue (m : Nat) (s : Sp) (c : Nat) : Bool := match s with
  | .sh _ _ => false
  | .la _ => decide (0 < c)
  | .ea _ => decide (c + 1 < m)
  | .lo _ => true
  | .so _ => true
theorem cues_filter {m : Nat} {s : Sp} (hm : m = 1 ∨ m = 2 ∨ m = 3) : (List.range m).filter (inCue m s) = cuesOf m s := by
  rcases hm with rfl | rfl | rfl <;> cases s <;> rfl
section
variable {s : Sto} {m : Nat}
theorem ixM {M : List Mo} {i : Int} {j : Nat} (h : i = (j : Int)) (hj : j < M.length) : gIx (newCel s (M.map mD)) (.cel s.cel.length) (.int i) = some (mD (mAt M j)) := by
  rw [gIx_cel newCel_new]
  refine atI_at h ?_
  rw [List.getElem?_map, List.getElem?_eq_getElem hj]
  unfold mAt
  rw [List.getD_eq_getElem?_getD, List.getElem?_eq_getElem hj]
  rfl
theorem putM {M : List Mo} {i : Int} {j : Nat} {p : Mo} (h : i = (j : Int)) (hj : j < M.length) : putCel (newCel s (M.map mD)) (.cel s.cel.length) (.int i) (mD p) = some (newCel s ((M.set j p).map mD)) := by
  unfold putCel
  subst h
  have hl : ∀ k : Nat, k < M.length → ixN M.length (k : Int) = some k := fun k hk => by
    unfold ixN
    rw [if_pos (by omega), if_pos (by omega)]
    simp
  simp only [newCel_new, Option.bind_some, List.length_map, hl j hj]
  rw [if_pos (show (mD p).pure = true from rfl)]
  unfold setCel newCel
  simp [List.map_set]
/-- what is compared at a cue -/
theorem law_test_ok {M : List Mo} {sp : Sp} {c : Nat} (hm : m = 1 ∨ m = 2 ∨ m = 3) (hM : M.length = 2 * m) (hk : ∀ p ∈ M, MOk p) (hc : c < m) :
    (inCue m sp c = false → f__law_test [.str (spK sp), .int (spV sp), .int m, .int c, .cel s.cel.length] (newCel s (M.map mD)) = .ok (.tup [.non, .non, .non]) (newCel s (M.map mD))) ∧
    (inCue m sp c = true → ∃ A B, MOk A ∧ MOk B ∧ ltM B A = lateT M (tstOf sp c) ∧ f__law_test [.str (spK sp), .int (spV sp), .int m, .int c, .cel s.cel.length] (newCel s (M.map mD)) = .ok (.tup [mD A, mD B, .tup [.int (tstOf sp c).at_, mD (moreM (mAt M (tstOf sp c).s) (tstOf sp c).k)]]) (newCel s (M.map mD))) := by
  have ok := mAt_ok hk
  have mo := fun (j : Nat) (n : Int) => law_more_ok (s := newCel s (M.map mD)) (p := mAt M j) (n := n) (ok j)
  have i0 := ixM (s := s) (M := M) (i := 2 * (c : Int)) (j := 2 * c) (by omega) (by omega)
  have i1 := ixM (s := s) (M := M) (i := 2 * (c : Int) + 1) (j := 2 * c + 1) (by omega) (by omega)
  cases sp with
  | sh a v =>
    refine ⟨fun _ => ?_, fun h => by cases h⟩
    simp [f__law_test, defF_ap, spK, spV, dEq_ss, okD_shift, okD_later, okD_earlier, okD_longer, okD_shorter, mul2]
  | la v =>
    refine ⟨fun h => ?_, fun h => ?_⟩
    · have hc0 : c = 0 := by simp [inCue] at h; omega
      subst hc0
      simp [f__law_test, defF_ap, spK, spV, dEq_ss, okD_shift, okD_later, okD_earlier, okD_longer, okD_shorter, mul2]
    · have hc0 : 0 < c := by simpa [inCue] using h
      have hc1 : 0 < (c : Int) := by omega
      have im := ixM (s := s) (M := M) (i := 2 * (c : Int) - 1) (j := 2 * c - 1) (by omega) (by omega)
      refine ⟨moreM (mAt M (2 * c - 1)) v, mAt M (2 * c), moreM_ok (ok _), ok _, rfl, ?_⟩
      simp [f__law_test, defF_ap, spK, spV, dEq_ss, okD_shift, okD_later, okD_earlier, okD_longer, okD_shorter, mul2, hc0, hc1, im, i0, mo, tstOf]
  | ea v =>
    refine ⟨fun h => ?_, fun h => ?_⟩
    · have hc0 : ¬ ((c : Int) < (m : Int) - 1) := by simp [inCue] at h; omega
      simp [f__law_test, defF_ap, spK, spV, dEq_ss, okD_shift, okD_later, okD_earlier, okD_longer, okD_shorter, mul2, hc0]
    · have hc0 : c + 1 < m := by simpa [inCue] using h
      have hc1 : (c : Int) < (m : Int) - 1 := by omega
      have i2 := ixM (s := s) (M := M) (i := 2 * (c : Int) + 2) (j := 2 * c + 2) (by omega) (by omega)
      refine ⟨moreM (mAt M (2 * c + 1)) v, mAt M (2 * c + 2), moreM_ok (ok _), ok _, rfl, ?_⟩
      simp [f__law_test, defF_ap, spK, spV, dEq_ss, okD_shift, okD_later, okD_earlier, okD_longer, okD_shorter, mul2, hc1, i1, i2, mo, tstOf]
  | lo v =>
    refine ⟨fun h => (by cases h), fun h => ?_⟩
    refine ⟨moreM (mAt M (2 * c)) v, mAt M (2 * c + 1), moreM_ok (ok _), ok _, rfl, ?_⟩
    simp [f__law_test, defF_ap, spK, spV, dEq_ss, okD_shift, okD_later, okD_earlier, okD_longer, okD_shorter, mul2, i0, i1, mo, tstOf]
  | so v =>
    refine ⟨fun h => (by cases h), fun h => ?_⟩
    refine ⟨mAt M (2 * c + 1), moreM (mAt M (2 * c)) v, ok _, moreM_ok (ok _), shorter_same (ok _) (ok _), ?_⟩
    simp [f__law_test, defF_ap, spK, spV, dEq_ss, okD_shift, okD_later, okD_earlier, okD_longer, okD_shorter, mul2, i0, i1, mo, tstOf]
end
end G

end
section
namespace G
open PySem PySem.Spec L2
theorem setCel_newCel' {s : Sto} {l l' : List D} : setCel (newCel s l) s.cel.length l' = newCel s l' := by
  unfold setCel newCel
  simp
theorem cut_newCel' {s : Sto} {l : List D} : cut s.cel.length (newCel s l) = s := by
  unfold cut newCel
  simp
structure ERn (s : Sto) (m : Nat) (env : Env) : Prop where
  len : env.length = 14
  s0 : env[0]? = some (some (.int m))
  s3 : env[3]? = some (some (.cel s.cel.length))
theorem ERn.set {s : Sto} {m i : Nat} {env : Env} {o : Option D} (h : ERn s m env) (hi : 4 ≤ i) : ERn s m (env.set i o) :=
  ⟨by simp [h.len], by rw [sl_ne (by omega)]; exact h.s0, by rw [sl_ne (by omega)]; exact h.s3⟩
section
variable {s : Sto} {m : Nat} {Q : Fl → Env → Sto → Prop}
def wD (w : List Bool) : D := .tup (w.map .bl)
/-- moments that are the run's -/
structure MsOk (m c : Nat) (x : MS) : Prop where
  ml : x.M.length = 2 * m
  mo : ∀ p ∈ x.M, MOk p
  wl : x.w.length ≤ c
theorem MsOk.go {c : Nat} {x : MS} {t : Tst} (h : MsOk m c x) : MsOk m (c + 1) (goM x t) := by
  refine ⟨?_, fun p hp => ?_, ?_⟩
  · unfold goM; simp only; split <;> simp [h.ml]
  · unfold goM at hp
    simp only at hp
    split at hp
    · rcases List.mem_or_eq_of_mem_set hp with hp | hp
      · exact h.mo p hp
      · rw [hp]; exact moreM_ok (mAt_ok h.mo _)
    · exact h.mo p hp
  · have := h.wl; simp [goM]; omega
theorem run_cue {sp : Sp} {c cc : Nat} {x : MS} {env : Env} (hm : m = 1 ∨ m = 2 ∨ m = 3) (hc : c < m) (hcc : cc ≤ 1000) (ok : MsOk m cc x) (E : ERn s m env) (v4 : env[4]? = some (some (wD x.w))) (v6 : env[6]? = some (some (.str (spK sp)))) (v7 : env[7]? = some (some (.int (spV sp))))
    (q : ∀ e, ERn s m e → e[6]? = env[6]? → e[7]? = env[7]? → e[5]? = env[5]? → e[4]? = some (some (wD (if inCue m sp c = true then goM x (tstOf sp c) else x).w)) → Q .nx e (newCel s ((if inCue m sp c = true then goM x (tstOf sp c) else x).M.map mD))) : Wp (lb__law_run_1 (env.set 9 (some (.int (c : Nat)))) (newCel s (x.M.map mD))) Q := by
  obtain ⟨t1, t2⟩ := law_test_ok (s := s) (m := m) (sp := sp) (c := c) hm ok.ml ok.mo hc
  cases hin : inCue m sp c with
  | false =>
    rw [hin] at q
    simp only [Bool.false_eq_true, if_false] at q
    have e1 := t1 hin
    simp only [lb__law_run_1, sSeq_ap, sAsg_ap, eCall_ap, lCons_ap, lNil_ap, eVar_k, v4, v6, v7, E.s0, E.s3, List.getElem?_set, E.len, List.length_set, reduceIte, Nat.reduceEqDiff, Nat.reduceLT, varK_some, Res.bind_ok, e1, Res.st_ok, gtTup_ap, gtTups_cons, gtTups_nil, gtName_ap, Option.bind_some, asgK_some, SRes.seq_nx, sIf_ap, bVal_ap, eOp_ap, eC_ap, dNotN_n, Res.of_some, asB_bl, Bool.false_eq_true, if_false, sNx_ap, Wp_ok]
    refine q _ ((((E.set (by omega)).set (by omega)).set (by omega)).set (by omega)) ?_ ?_ ?_ ?_
    · simp only [List.getElem?_set, reduceIte, Nat.reduceEqDiff]
    · simp only [List.getElem?_set, reduceIte, Nat.reduceEqDiff]
    · simp only [List.getElem?_set, reduceIte, Nat.reduceEqDiff]
    · simp only [List.getElem?_set, reduceIte, Nat.reduceEqDiff, v4]
  | true =>
    rw [hin] at q
    simp only [if_true] at q
    obtain ⟨A, B, hA, hB, hl, e1⟩ := t2 hin
    have bl := law_below_ok (s := newCel s (x.M.map mD)) hB hA
    rw [hl] at bl
    have hwl := ok.wl
    have ad : ∀ s b, dAdd s (wD x.w) (.tup [.bl b]) = some (wD (x.w ++ [b])) := fun s b => by
      unfold wD
      rw [dAdd_tt (by simp; omega)]
      simp
    have nn : ∀ s p, dNotN s (mD p) .non = some (.bl true) := fun _ _ => rfl
    simp only [lb__law_run_1, sSeq_ap, sAsg_ap, eCall_ap, lCons_ap, lNil_ap, eVar_k, v4, v6, v7, E.s0, E.s3, List.getElem?_set, E.len, List.length_set, reduceIte, Nat.reduceEqDiff, Nat.reduceLT, varK_some, Res.bind_ok, e1, Res.st_ok, gtTup_ap, gtTups_cons, gtTups_nil, gtName_ap, Option.bind_some, asgK_some, SRes.seq_nx, sIf_ap, bVal_ap, eOp_ap, eC_ap, nn, Res.of_some, asB_bl, if_true, sSet_ap, bl, eTup_ap, ad]
    unfold goM at q
    simp only at q
    have tk : (tstOf sp c).at_ < x.M.length := by
      rw [ok.ml]
      have := testsL_ok (m := m) (s := sp) (t := tstOf sp c) hm (List.mem_map.mpr ⟨c, by rw [← cues_filter hm]; exact List.mem_filter.mpr ⟨List.mem_range.mpr hc, hin⟩, rfl⟩)
      exact this.2.2.1
    have pm := putM (s := s) (M := x.M) (i := ((tstOf sp c).at_ : Nat)) (p := moreM (mAt x.M (tstOf sp c).s) (tstOf sp c).k) rfl tk
    cases hlate : lateT x.M (tstOf sp c) with
    | true =>
      rw [hlate] at q
      simp only [if_true, sAsg_ap, eOp_ap, eVar_k, eC_ap, List.getElem?_set, E.len, List.length_set, reduceIte, Nat.reduceEqDiff, Nat.reduceLT, varK_some, Res.bind_ok, gIx_tup, atI_1, atI_0, Res.of_some, Res.st_ok, gtSub_ap, E.s3, subK_ok, subK2_ok, pm, Option.map_some, asgK_some, Wp_ok]
      simp only [if_true] at q
      refine q _ ((((((E.set (by omega)).set (by omega)).set (by omega)).set (by omega)).set (by omega)).set (by omega)) ?_ ?_ ?_ ?_ <;> simp only [List.getElem?_set, E.len, List.length_set, reduceIte, Nat.reduceEqDiff, Nat.reduceLT]
    | false =>
      rw [hlate] at q
      simp only [Bool.false_eq_true, if_false, sNx_ap, Wp_ok]
      simp only [Bool.false_eq_true, if_false] at q
      refine q _ ((((((E.set (by omega)).set (by omega)).set (by omega)).set (by omega)).set (by omega)).set (by omega)) ?_ ?_ ?_ ?_ <;> simp only [List.getElem?_set, E.len, List.length_set, reduceIte, Nat.reduceEqDiff, Nat.reduceLT]
theorem MsOk.le {c d : Nat} {x : MS} (h : MsOk m c x) (hc : c ≤ d) : MsOk m d x := ⟨h.ml, h.mo, Nat.le_trans h.wl hc⟩
theorem run_cues {sp : Sp} (hm : m = 1 ∨ m = 2 ∨ m = 3) : ∀ (cs : List Nat) {cc : Nat} {x : MS} {env : Env}, (∀ c ∈ cs, c < m) → cc + cs.length ≤ 1000 → MsOk m cc x → ERn s m env → env[4]? = some (some (wD x.w)) → env[6]? = some (some (.str (spK sp))) → env[7]? = some (some (.int (spV sp))) →
    (∀ e y, y = ((cs.filter (inCue m sp)).map (tstOf sp)).foldl goM x → ERn s m e → e[4]? = some (some (wD y.w)) → MsOk m (cc + cs.length) y → Q .nx e (newCel s (y.M.map mD))) → Wp (forL (.nm 9) lb__law_run_1 (cs.map fun (c : Nat) => .int (c : Int)) env (newCel s (x.M.map mD))) Q
  | [], cc, x, env, _, _, ok, E, v4, _, _, q => q env x rfl E v4 ok
  | c :: cs, cc, x, env, hc, hcc, ok, E, v4, v6, v7, q => by
    simp only [List.length_cons] at hcc
    rw [List.map_cons]
    refine forW bind_nm ?_
    refine run_cue (sp := sp) (cc := cc) hm (hc c (by simp)) (by omega) ok E v4 v6 v7 (fun e E' w6 w7 w5 w4 => ?_)
    rw [LQ_nx]
    have ok' : MsOk m (cc + 1) (if inCue m sp c = true then goM x (tstOf sp c) else x) := by
      split
      · exact ok.go
      · exact ok.le (by omega)
    refine run_cues hm cs (cc := cc + 1) (fun y hy => hc y (by simp [hy])) (by omega) ok' E' w4 (w6.trans v6) (w7.trans v7) (fun e2 y hy E2 x4 ok2 => q e2 y ?_ E2 x4 (by rw [List.length_cons, show cc + (cs.length + 1) = cc + 1 + cs.length from by omega]; exact ok2))
    rw [hy]
    cases hin : inCue m sp c with
    | true => rw [List.filter_cons_of_pos hin]; simp
    | false => rw [List.filter_cons_of_neg (by rw [hin]; decide)]; simp
/-- the shift, moment by moment -/
theorem shMK_len {c : Nat} {v : Int} : ∀ {k : Nat} {F : List Mo}, (shMK c v k F).length = F.length
  | _, [] => rfl
  | k, p :: F => by simp [shMK, shMK_len]
theorem shMK_get {c : Nat} {v : Int} : ∀ {j : Nat} {F : List Mo} {i : Nat} {p : Mo}, F[i]? = some p → (shMK c v j F)[i]? = some (if 2 * c ≤ j + i then moreM p v else p)
  | _, [], _, _, h => by simp at h
  | j, q :: F, 0, p, h => by simp at h; subst h; simp [shMK]
  | j, q :: F, i + 1, p, h => by
    have := shMK_get (c := c) (v := v) (j := j + 1) (F := F) (i := i) (p := p) (by simpa using h)
    simp [shMK, this, show j + 1 + i = j + (i + 1) by omega]
theorem shMK_mem {c : Nat} {v : Int} : ∀ {k : Nat} {F : List Mo}, (∀ p ∈ F, MOk p) → ∀ p ∈ shMK c v k F, MOk p
  | k, [], _, p, hp => by cases hp
  | k, q :: F, h, p, hp => by
    unfold shMK at hp
    rcases List.mem_cons.mp hp with e | hp
    · have := h q (by simp)
      rw [e]
      split
      · exact moreM_ok this
      · exact this
    · exact shMK_mem (fun x hx => h x (by simp [hx])) p hp
/-- the first k are shifted -/
def mixS (sp : Sp) (M : List Mo) (k : Nat) : List Mo := (shM sp ⟨M, []⟩).M.take k ++ M.drop k
theorem shM_len {sp : Sp} {M : List Mo} : (shM sp ⟨M, []⟩).M.length = M.length := by cases sp <;> simp [shM, shMK_len]
theorem shM_M {sp : Sp} {x : MS} : shM sp x = ⟨(shM sp ⟨x.M, []⟩).M, x.w⟩ := by cases sp <;> rfl
theorem shM_ok {sp : Sp} {M : List Mo} (h : ∀ p ∈ M, MOk p) : ∀ p ∈ (shM sp ⟨M, []⟩).M, MOk p := by
  cases sp with
  | sh c v => exact shMK_mem h
  | _ => exact h
theorem shM_get {sp : Sp} {M : List Mo} {k : Nat} (hk : k < M.length) : (shM sp ⟨M, []⟩).M[k]? = some (match sp with | .sh c v => if 2 * c ≤ k then moreM (mAt M k) v else mAt M k | _ => mAt M k) := by
  have e : M[k]? = some (mAt M k) := by unfold mAt; rw [List.getD_eq_getElem?_getD, List.getElem?_eq_getElem hk]; rfl
  cases sp with
  | sh c v =>
    have := shMK_get (c := c) (v := v) (j := 0) e
    simpa [shM] using this
  | _ => exact e
theorem mixS_step {sp : Sp} {M : List Mo} {k : Nat} (hk : k < M.length) : (mixS sp M k).set k (match sp with | .sh c v => if 2 * c ≤ k then moreM (mAt M k) v else mAt M k | _ => mAt M k) = mixS sp M (k + 1) := by
  unfold mixS
  have hl : ((shM sp ⟨M, []⟩).M.take k).length = k := by rw [List.length_take, shM_len]; omega
  rw [List.set_append_right _ _ (by omega), hl, Nat.sub_self, List.drop_eq_getElem_cons hk, List.set_cons_zero, List.take_add_one, shM_get hk]
  simp
theorem mixS_at {sp : Sp} {M : List Mo} {k : Nat} (hk : k < M.length) : mAt (mixS sp M k) k = mAt M k := by
  have hl : ((shM sp ⟨M, []⟩).M.take k).length = k := by rw [List.length_take, shM_len]; omega
  unfold mAt mixS
  rw [List.getD_eq_getElem?_getD, List.getElem?_append_right (by omega), hl, Nat.sub_self, List.getElem?_drop, List.getD_eq_getElem?_getD]
  simp
theorem mixS_len {sp : Sp} {M : List Mo} {k : Nat} (hk : k ≤ M.length) : (mixS sp M k).length = M.length := by
  unfold mixS
  rw [List.length_append, List.length_take, shM_len, List.length_drop]
  omega
theorem run_shift {sp : Sp} {M : List Mo} (hok : ∀ p ∈ M, MOk p) (hM : M.length = 2 * m) : ∀ (n k : Nat) {env : Env}, k + n = 2 * m → ERn s m env → env[5]? = some (some (spT sp)) → env[6]? = some (some (.str (spK sp))) → env[7]? = some (some (.int (spV sp))) →
    (∀ e, ERn s m e → e[4]? = env[4]? → e[6]? = env[6]? → e[7]? = env[7]? → Q .nx e (newCel s ((shM sp ⟨M, []⟩).M.map mD))) → Wp (forL (.nm 8) lb__law_run_0 ((List.range' k n).map fun (i : Nat) => .int (i : Int)) env (newCel s ((mixS sp M k).map mD))) Q
  | 0, k, env, hk, E, v5, v6, v7, q => by
    have : mixS sp M k = (shM sp ⟨M, []⟩).M := by
      unfold mixS
      rw [List.take_of_length_le (by rw [shM_len]; omega), List.drop_eq_nil_of_le (by omega), List.append_nil]
    rw [this]
    exact q env E rfl rfl rfl
  | n + 1, k, env, hk, E, v5, v6, v7, q => by
    have hlt : k < M.length := by omega
    rw [List.range'_succ, List.map_cons]
    refine forW bind_nm ?_
    have nxt : ∀ e, ERn s m e → e[4]? = env[4]? → e[5]? = env[5]? → e[6]? = env[6]? → e[7]? = env[7]? → Wp (forL (.nm 8) lb__law_run_0 ((List.range' (k + 1) n).map fun (i : Nat) => .int (i : Int)) e (newCel s ((mixS sp M (k + 1)).map mD))) Q := fun e E' w4 w5 w6 w7 =>
      run_shift hok hM n (k + 1) (by omega) E' (w5.trans v5) (w6.trans v6) (w7.trans v7) (fun e2 E2 x4 x6 x7 => q e2 E2 (x4.trans w4) (x6.trans w6) (x7.trans w7))
    have hmix : ∀ sp', sp' = sp → (match sp' with | .sh c v => if 2 * c ≤ k then moreM (mAt M k) v else mAt M k | _ => mAt M k) = mAt M k → mixS sp M (k + 1) = mixS sp M k := by
      intro sp' e h
      subst e
      have hs := mixS_step (sp := sp') hlt
      rw [h] at hs
      rw [← hs]
      apply List.ext_getElem?
      intro i
      rw [List.getElem?_set]
      by_cases hi : k = i
      · subst hi
        rw [if_pos rfl, if_pos (by rw [mixS_len (by omega)]; exact hlt)]
        have := mixS_at (sp := sp') hlt
        unfold mAt at this
        have hl : k < (mixS sp' M k).length := by rw [mixS_len (by omega)]; exact hlt
        rw [List.getElem?_eq_getElem hl]
        rw [List.getD_eq_getElem?_getD, List.getElem?_eq_getElem hl] at this
        unfold mAt
        simpa using this.symm
      · rw [if_neg hi]
    cases sp with
    | sh c v =>
      have i1 : ∀ s, gIx s (spT (.sh c v)) (.int 1) = some (.int c) := fun _ => by simp [spT]
      have ix := ixM (s := s) (M := mixS (.sh c v) M k) (i := (k : Int)) rfl (by rw [mixS_len (by omega)]; exact hlt)
      rw [mixS_at hlt] at ix
      have mo := law_more_ok (s := newCel s ((mixS (.sh c v) M k).map mD)) (p := mAt M k) (n := v) (mAt_ok hok k)
      have pm := putM (s := s) (M := mixS (.sh c v) M k) (i := (k : Int)) (p := moreM (mAt M k) v) rfl (by rw [mixS_len (by omega)]; exact hlt)
      simp only [lb__law_run_0, sIf_ap, bAnd_ap, bVal_ap, eOp_ap, eVar_k, eC_ap, v5, v6, v7, E.s3, List.getElem?_set, E.len, List.length_set, reduceIte, Nat.reduceEqDiff, Nat.reduceLT, varK_some, Res.bind_ok, spK, spV, dEq_ss okD_shift okD_shift, BEq.rfl, Res.of_some, asB_bl, i1, mul2, dGe_ii, Res.st_ok]
      by_cases h2 : 2 * c ≤ k
      · rw [if_pos (by simp; omega)]
        have hs := mixS_step (sp := .sh c v) hlt
        simp only [if_pos h2] at hs
        rw [hs] at pm
        simp only [sAsg_ap, eCall_ap, lCons_ap, lNil_ap, eOp_ap, eVar_k, E.s3, v7, spV, List.getElem?_set, E.len, List.length_set, reduceIte, Nat.reduceEqDiff, Nat.reduceLT, varK_some, Res.bind_ok, ix, Res.of_some, mo, Res.st_ok, gtSub_ap, subK_ok, subK2_ok, pm, Option.map_some, asgK_some, Wp_ok, LQ_nx]
        refine nxt _ (E.set (by omega)) ?_ ?_ ?_ ?_ <;> simp only [List.getElem?_set, reduceIte, Nat.reduceEqDiff]
      · rw [if_neg (by simp; omega)]
        simp only [sNx_ap, Wp_ok, LQ_nx]
        have hs := hmix (.sh c v) rfl (by simp [h2])
        rw [← hs]
        refine nxt _ (E.set (by omega)) ?_ ?_ ?_ ?_ <;> simp only [List.getElem?_set, reduceIte, Nat.reduceEqDiff]
    | _ =>
      simp only [lb__law_run_0, sIf_ap, bAnd_ap, bVal_ap, eOp_ap, eVar_k, eC_ap, v6, List.getElem?_set, reduceIte, Nat.reduceEqDiff, varK_some, Res.bind_ok, spK, dEq_ss okD_later okD_shift, dEq_ss okD_earlier okD_shift, dEq_ss okD_longer okD_shift, dEq_ss okD_shorter okD_shift, Res.of_some, asB_bl]
      simp
      have hs := hmix _ rfl rfl
      rw [← hs]
      refine nxt _ (E.set (by omega)) ?_ ?_ ?_ ?_ <;> simp only [List.getElem?_set, reduceIte, Nat.reduceEqDiff]
theorem run_step {sp : Sp} {cc : Nat} {x : MS} {env : Env} (hm : m = 1 ∨ m = 2 ∨ m = 3) (hcc : cc + m ≤ 1000) (ok : MsOk m cc x) (E : ERn s m env) (v4 : env[4]? = some (some (wD x.w)))
    (q : ∀ e, ERn s m e → e[4]? = some (some (wD (runSt m x sp).w)) → MsOk m (cc + m) (runSt m x sp) → Q .nx e (newCel s ((runSt m x sp).M.map mD))) : Wp (lb__law_run_2 (env.set 5 (some (spT sp))) (newCel s (x.M.map mD))) Q := by
  have g0 : ∀ s, gIx s (spT sp) (.int 0) = some (.str (spK sp)) := fun s => by cases sp <;> simp [spT, spK]
  have g1 : ∀ s, gIx s (spT sp) (.int (-1)) = some (.int (spV sp)) := fun s => by cases sp <;> simp [spT, spV]
  unfold lb__law_run_2
  refine wp_seq ?_
  simp only [sPar_ap, lCons_ap, lNil_ap, eOp_ap, eUn_ap, dNeg_i, eVar_k, eC_ap, List.getElem?_set, E.len, List.length_set, reduceIte, Nat.reduceEqDiff, Nat.reduceLT, varK_some, Res.bind_ok, g0, g1, Res.of_some, Res.st_ok, setsE_cons, setsE_nil, Wp_ok, SQ_nx]
  have E1 := ((E.set (i := 5) (o := some (spT sp)) (by omega)).set (i := 6) (o := some (.str (spK sp))) (by omega)).set (i := 7) (o := some (.int (spV sp))) (by omega)
  have w4 : (((env.set 5 (some (spT sp))).set 6 (some (.str (spK sp)))).set 7 (some (.int (spV sp))))[4]? = env[4]? := by simp only [List.getElem?_set, reduceIte, Nat.reduceEqDiff]
  have w5 : (((env.set 5 (some (spT sp))).set 6 (some (.str (spK sp)))).set 7 (some (.int (spV sp))))[5]? = some (some (spT sp)) := by simp only [List.getElem?_set, E.len, List.length_set, reduceIte, Nat.reduceEqDiff, Nat.reduceLT]
  have w6 : (((env.set 5 (some (spT sp))).set 6 (some (.str (spK sp)))).set 7 (some (.int (spV sp))))[6]? = some (some (.str (spK sp))) := by simp only [List.getElem?_set, E.len, List.length_set, reduceIte, Nat.reduceEqDiff, Nat.reduceLT]
  have w7 : (((env.set 5 (some (spT sp))).set 6 (some (.str (spK sp)))).set 7 (some (.int (spV sp))))[7]? = some (some (.int (spV sp))) := by simp only [List.getElem?_set, E.len, List.length_set, reduceIte, Nat.reduceEqDiff, Nat.reduceLT]
  generalize ((env.set 5 (some (spT sp))).set 6 (some (.str (spK sp)))).set 7 (some (.int (spV sp))) = e1 at *
  have r2 : gR1 [.int (2 * (m : Int))] = some ((List.range' 0 (2 * m)).map fun (i : Nat) => .int (i : Int)) := by
    rw [gR1_int, if_pos (by omega), show (2 * (m : Int)).toNat = 2 * m from by omega, rngD_map, List.range_eq_range']
    simp
  have r1 : gR1 [.int (m : Int)] = some ((List.range m).map fun (i : Nat) => .int (i : Int)) := by
    rw [gR1_int, if_pos (by omega), Int.toNat_natCast, rngD_map]
    simp
  refine wp_seq ?_
  simp only [sFor_ap, iOf_ap, lCons_ap, lNil_ap, eOp_ap, eVar_k, eC_ap, E1.s0, varK_some, Res.bind_ok, mul2, Res.of_some, r2, Res.st_ok]
  have hmix : mixS sp x.M 0 = x.M := by simp [mixS]
  have rs := run_shift (s := s) (m := m) (Q := SQ (fun e s_1 => Wp (sFor (Pat.nm 9) (iOf gR1 (lCons (eVar 0) lNil)) lb__law_run_1 e s_1) Q) Q) (sp := sp) (M := x.M) ok.mo ok.ml (2 * m) 0 (env := e1) (by omega) E1 w5 w6 w7
  rw [hmix] at rs
  refine rs (fun e E2 x4 x6 x7 => ?_)
  rw [SQ_nx]
  simp only [sFor_ap, iOf_ap, lCons_ap, lNil_ap, eVar_k, E2.s0, varK_some, Res.bind_ok, r1, Res.of_some, Res.st_ok]
  have ok2 : MsOk m cc (shM sp x) := by
    rw [shM_M]
    exact ⟨by rw [shM_len]; exact ok.ml, shM_ok ok.mo, ok.wl⟩
  have hM2 : (shM sp ⟨x.M, []⟩).M = (shM sp x).M := by rw [shM_M (x := x)]
  have hw2 : (shM sp x).w = x.w := by rw [shM_M]
  rw [hM2]
  refine run_cues (s := s) (sp := sp) hm (List.range m) (cc := cc) (x := shM sp x) (fun c hc => List.mem_range.mp hc) (by simp; omega) ok2 E2 (by rw [hw2, x4, w4, v4]) (x6.trans w6) (x7.trans w7) (fun e2 y hy E3 y4 ok3 => ?_)
  rw [cues_filter hm] at hy
  have : y = runSt m x sp := hy
  rw [this] at y4 ok3 ⊢
  rw [List.length_range] at ok3
  exact q e2 E3 y4 ok3
theorem run_steps (hm : m = 1 ∨ m = 2 ∨ m = 3) : ∀ (ss : List Sp) {cc : Nat} {x : MS} {env : Env}, cc + m * ss.length ≤ 1000 → MsOk m cc x → ERn s m env → env[4]? = some (some (wD x.w)) →
    (∀ e, ERn s m e → e[4]? = some (some (wD (ss.foldl (runSt m) x).w)) → MsOk m (cc + m * ss.length) (ss.foldl (runSt m) x) → Q .nx e (newCel s ((ss.foldl (runSt m) x).M.map mD))) → Wp (forL (.nm 5) lb__law_run_2 (ss.map spT) env (newCel s (x.M.map mD))) Q
  | [], cc, x, env, _, ok, E, v4, q => q env E v4 (by simpa using ok)
  | sp :: ss, cc, x, env, hc, ok, E, v4, q => by
    rw [List.length_cons, Nat.mul_add, Nat.mul_one] at hc
    rw [List.map_cons]
    refine forW bind_nm ?_
    refine run_step (sp := sp) (cc := cc) hm (by omega) ok E v4 (fun e E' w4 ok' => ?_)
    rw [LQ_nx]
    refine run_steps hm ss (cc := cc + m) (by omega) ok' E' w4 (fun e2 E2 x4 ok2 => q e2 E2 x4 ?_)
    rw [List.length_cons, Nat.mul_add, Nat.mul_one, show cc + (m * ss.length + m) = cc + m + m * ss.length from by omega]
    exact ok2
end
theorem law_run_ok {s : Sto} {m : Nat} {ss : List Sp} {M : List Mo} (hm : m = 1 ∨ m = 2 ∨ m = 3) (hs : ss.length ≤ 100) (hM : M.length = 2 * m) (hk : ∀ p ∈ M, MOk p) : f__law_run [.int m, scrD ss, .tup (M.map mD)] s = .ok (.tup [.tup ((runM m ss M).M.map mD), wD (runM m ss M).w]) s ∧ MsOk m 1000 (runM m ss M) := by
  have hms : m * ss.length ≤ 300 := by
    have : m * ss.length ≤ 3 * ss.length := Nat.mul_le_mul_right _ (by omega)
    omega
  have key : ∃ d s', f__law_run [.int m, scrD ss, .tup (M.map mD)] s = .ok d s' ∧ ((d = .tup [.tup ((runM m ss M).M.map mD), wD (runM m ss M).w] ∧ s' = s) ∧ MsOk m 1000 (runM m ss M)) := by
    unfold f__law_run scrD
    refine of_wpC ?_
    have st : startE 14 [.int m, .tup (ss.map spT), .tup (M.map mD)] = [some (.int m), some (.tup (ss.map spT)), some (.tup (M.map mD)), none, none, none, none, none, none, none, none, none, none, none] := rfl
    rw [st]
    have pm : ∀ M : List Mo, pureL (M.map mD) = true := fun M => pureL_map (fun _ => rfl) M
    refine wp_seq ?_
    simp only [sPar_ap, pCel_ap, pCons_ap, pNil_ap, eFn_ap, eTup_ap, lCons_ap, lNil_ap, eVar_0, eVar_s, Res.bind_ok, gLst_tup, Res.of_some, pcelK_lst, pm, if_true, Res.st_ok, setsE_cons, setsE_nil, Wp_ok, SQ_nx, List.set_cons_succ, List.set_cons_zero]
    have E0 : ERn s m [some (.int m), some (.tup (ss.map spT)), some (.tup (M.map mD)), some (.cel s.cel.length), some (.tup []), none, none, none, none, none, none, none, none, none] := ⟨rfl, rfl, rfl⟩
    have v1 : ([some (.int m), some (.tup (ss.map spT)), some (.tup (M.map mD)), some (.cel s.cel.length), some (.tup []), none, none, none, none, none, none, none, none, none] : Env)[1]? = some (some (.tup (ss.map spT))) := rfl
    have v4 : ([some (.int m), some (.tup (ss.map spT)), some (.tup (M.map mD)), some (.cel s.cel.length), some (.tup []), none, none, none, none, none, none, none, none, none] : Env)[4]? = some (some (wD (⟨M, []⟩ : MS).w)) := rfl
    revert E0 v1 v4
    generalize ([some (.int m), some (.tup (ss.map spT)), some (.tup (M.map mD)), some (.cel s.cel.length), some (.tup []), none, none, none, none, none, none, none, none, none] : Env) = env
    intro E0 v1 v4
    refine wp_seq ?_
    simp only [sFor_ap, iSeq_ap, eVar_k, v1, varK_some, Res.bind_ok, seqOf_tup, Res.of_some, Res.st_ok]
    refine run_steps (s := s) hm ss (cc := 0) (x := ⟨M, []⟩) (by omega) ⟨hM, hk, Nat.le_refl _⟩ E0 v4 (fun e E w4 ok => ?_)
    rw [SQ_nx]
    have gt : gTup (newCel s ((runM m ss M).M.map mD)) [.cel s.cel.length] = some (.tup ((runM m ss M).M.map mD)) := by unfold gTup; simp [newCel_new]
    have e2 : ss.foldl (runSt m) ⟨M, []⟩ = runM m ss M := rfl
    rw [e2] at w4 ok ⊢
    simp only [sRet_ap, eTup_ap, lCons_ap, lNil_ap, eFn_ap, eVar_k, E.s3, w4, varK_some, Res.bind_ok, gt, Res.of_some, Res.st_ok, Wp_ok]
    refine ⟨⟨?_, cut_newCel'⟩, ok.le (by omega)⟩
    refine fz_pure _ ?_
    have pw : pureL ((runM m ss M).w.map D.bl) = true := pureL_map (fun _ => rfl) _
    unfold wD
    simp only [D.pure, pureL, pm, pw, Bool.and_self]
  obtain ⟨d, s', e, ⟨e1, e2⟩, e3⟩ := key
  exact ⟨by rw [e, e1, e2], e3⟩
/-- whether moments keep gaps -/
def keepG (M : List Mo) (g : Gp) : Bool := !ltM (mAt M g.2.1.toNat) (moreM (mAt M g.1.toNat) g.2.2)
theorem law_keeps_ok {s : Sto} {m : Nat} {gs : List Gp} {M : List Mo} (hM : M.length = 2 * m) (hk : ∀ p ∈ M, MOk p) (hg : ∀ g ∈ gs, Gp.ok m g) : f__law_keeps [.tup (gs.map gpD), .tup (M.map mD)] s = .ok (.bl (gs.all (keepG M))) s := by
  have key : ∀ (l : List Gp) (env : Env), (∀ g ∈ l, Gp.ok m g) → env.length = 5 → env[1]? = some (some (.tup (M.map mD))) → Wp (forL (.tp [.nm 2, .nm 3, .nm 4]) lb__law_keeps_0 (l.map gpD) env s) (fun fl _ s1 => s1 = s ∧ ((fl = .nx ∧ l.all (keepG M) = true) ∨ (fl = .rt (.bl false) ∧ l.all (keepG M) = false))) := by
    intro l
    induction l with
    | nil => intro env _ _ _; exact ⟨rfl, .inl ⟨rfl, rfl⟩⟩
    | cons g l ih =>
      intro env hg hl v1
      obtain ⟨i, j, v, e, h1, h2, h3, h4, h5, h6, h7⟩ := id (hg g (by simp))
      obtain ⟨a, b, w⟩ := g
      unfold gpD at e
      simp only [D.tup.injEq, List.cons.injEq, D.int.injEq, and_true] at e
      obtain ⟨rfl, rfl, rfl⟩ := e
      have x1 : ∀ (s : Sto) (i : Int), 0 ≤ i → i < 2 * (m : Int) → gIx s (.tup (M.map mD)) (.int i) = some (mD (mAt M i.toNat)) := fun s i h0 h1 => by
        rw [gIx_tup]
        have hlt : i.toNat < M.length := by omega
        refine atI_at (i := i.toNat) (by omega) ?_
        rw [List.getElem?_map, List.getElem?_eq_getElem hlt]
        unfold mAt
        rw [List.getD_eq_getElem?_getD, List.getElem?_eq_getElem hlt]
        rfl
      have mo := law_more_ok (s := s) (p := mAt M a.toNat) (n := w) (mAt_ok hk _)
      have be := law_below_ok (s := s) (p := mAt M b.toNat) (q := moreM (mAt M a.toNat) w) (mAt_ok hk _) (moreM_ok (mAt_ok hk _))
      rw [List.map_cons]
      refine forW bind_tp3 ?_
      simp only [lb__law_keeps_0, sIf_ap, bVal_ap, eCall_ap, lCons_ap, lNil_ap, eOp_ap, eVar_k, v1, List.getElem?_set, hl, List.length_set, reduceIte, Nat.reduceEqDiff, Nat.reduceLT, varK_some, Res.bind_ok, x1 s b h3 h4, x1 s a h1 h2, Res.of_some, mo, be, asB_bl, Res.st_ok]
      have hk' : keepG M (a, b, w) = !ltM (mAt M b.toNat) (moreM (mAt M a.toNat) w) := rfl
      cases hlt : ltM (mAt M b.toNat) (moreM (mAt M a.toNat) w) with
      | true =>
        simp only [if_true, sRet_ap, eC_ap, Res.st_ok, Wp_ok, LQ_rt]
        refine ⟨trivial, .inr ⟨trivial, ?_⟩⟩
        simp [hk', hlt]
      | false =>
        simp only [Bool.false_eq_true, if_false, sNx_ap, Wp_ok, LQ_nx]
        have := ih (((env.set 2 (some (.int a))).set 3 (some (.int b))).set 4 (some (.int w))) (fun x hx => hg x (by simp [hx])) (by simp [hl]) (by simp only [List.getElem?_set, reduceIte, Nat.reduceEqDiff, v1])
        have hk2 : keepG M (a, b, w) = true := by rw [hk', hlt]; rfl
        refine this.imp fun fl e s1 ⟨q1, q2⟩ => ⟨q1, ?_⟩
        rw [List.all_cons, hk2, Bool.true_and]
        exact q2
  unfold f__law_keeps
  refine of_wpF ?_
  refine wp_seq ?_
  have st : startE 5 [.tup (gs.map gpD), .tup (M.map mD)] = [some (.tup (gs.map gpD)), some (.tup (M.map mD)), none, none, none] := rfl
  rw [st]
  simp only [sFor_ap, iSeq_ap, eVar_0, Res.bind_ok, seqOf_tup, Res.of_some, Res.st_ok]
  refine (key gs _ hg rfl rfl).imp fun fl e s1 ⟨q1, q2⟩ => ?_
  subst q1
  rcases q2 with ⟨q2, q3⟩ | ⟨q2, q3⟩
  · rw [q2, q3, SQ_nx]
    simp only [sRet_ap, eC_ap, Res.st_ok, Wp_ok, true_or, and_self]
  · rw [q2, q3, SQ_rt]
    exact ⟨.inl rfl, rfl⟩
end G

end
section
namespace G
open PySem PySem.Spec L2
/-! drawn moments, in lowest terms -/
def isMoL (d : D) : Prop := isMom d ∧ ∃ i j : Int, 0 < j ∧ d = lowT i j
theorem momentsL_ok {n : Nat} {s : Sto} {m : Int} (h : Jar n s) (hm : 1 ≤ m ∧ m ≤ 3) : ∃ l s', f__law_moments [.cel n, .int m] s = .ok (.tup l) s' ∧ (l.length : Int) = 2 * m ∧ (∀ d ∈ l, isMoL d) ∧ Jr n s s' := by
  have hn := h.lt
  obtain ⟨r, s1, e1, r0, r1, j1⟩ := dip_ok (w := 5) h.new (by decide) (by decide) (s := newCel s [])
  obtain ⟨b, s2, e2, hb, j2⟩ := any_int (l := [1, 1, 2, 3]) j1.jar (by simp) (by simp)
  have hb' : 1 ≤ b ∧ b ≤ 3 := by simp at hb; omega
  have m1 : ∀ s, dMul s (.int 2) (.int m) = some (.int (2 * m)) := fun _ => dMul_ii (by omega) (by omega)
  have j12 := j1.trans j2
  have hne : s.cel.length ≠ n := by omega
  have c2 : s2.cel[s.cel.length]? = some [] := j12.cel hne newCel_new
  obtain ⟨env', s3, e3, hI⟩ := for_invN (body := lb__law_moments_0) (i := 5) (ds := rngD 0 (2 * m).toNat) (k := 0) (env := [some (.cel n), some (.int m), some (.cel s.cel.length), some (.int (r - 2)), some (.int b), none]) (s := s2)
    (I := fun k env s3 => ∃ (t : Int) (x : Option D) (l : List D), env = [some (.cel n), some (.int m), some (.cel s.cel.length), some (.int t), some (.int b), x] ∧ l.length = k ∧ (∀ d ∈ l, isMoL d) ∧ -2 - 2 * (k : Int) ≤ t ∧ t ≤ 2 + 8 * (k : Int) ∧ s3.cel[s.cel.length]? = some l ∧ Jar n s3 ∧ s3.cel.length = s.cel.length + 1 ∧ (∀ i, i < s.cel.length → i ≠ n → s3.cel[i]? = s.cel[i]?) ∧ s3.obj = s.obj)
    ⟨r - 2, none, [], rfl, rfl, (by simp), by omega, by omega, c2, j2.jar, by rw [j12.len, newCel_len], fun i h1 h2 => by rw [j12.oth i h2, newCel_old h1], j12.obj⟩
    fun k d hd env s3 ⟨t, x, l, ee, hl, hmm, t0, t1, hc, hj, hlen, ho, hob⟩ => by
      subst ee
      have hk : k < 6 := by
        have : k < (rngD 0 (2 * m).toNat).length := (List.getElem?_eq_some_iff.mp hd).1
        rw [rngD_len0] at this
        omega
      have hmom : isMoL (lowT t b) := ⟨lowT_mom (by omega) hb', t, b, by omega, rfl⟩
      have ap := append_ok hc hmom.1.pure (by omega)
      have hj2 : Jar n (setCel s3 s.cel.length (l ++ [lowT t b])) := hj.setO (by omega)
      obtain ⟨q, s4, e4, hq, j4⟩ := any_int (l := [0, 1, 2, 3, 5, 8, -2]) hj2 (by simp) (by simp)
      have hq' : -2 ≤ q ∧ q ≤ 8 := by simp at hq; omega
      have lw : ∀ s, f__law_low [.int t, .int b] s = .ok (lowT t b) s := fun s => low_ok (by omega) (by omega)
      have e4' : f__law_any [.cel n, .lst [.int 0, .int 1, .int 2, .int 3, .int 5, .int 8, .int (-2)]] (setCel s3 s.cel.length (l ++ [lowT t b])) = .ok (.int q) s4 := e4
      refine ⟨[some (.cel n), some (.int m), some (.cel s.cel.length), some (.int (t + q)), some (.int b), some d], s4, .inl ?_, t + q, some d, l ++ [lowT t b], rfl, by simp [hl], ?_, by omega, by omega, j4.cel (by omega) (setCel_at hc), j4.jar, by rw [j4.len, setCel_len, hlen], fun i h1 h2 => by rw [j4.oth i h2, setCel_ne (by omega), ho i h1 h2], by rw [j4.obj]; exact hob⟩
      · simp [lb__law_moments_0, lw, ap, e4']
      · intro y hy
        rcases List.mem_append.mp hy with hy | hy
        · exact hmm y hy
        · simp at hy; subst hy; exact hmom
  obtain ⟨t, x, l, ee, hl, hmm, t0, t1, hc, hj, hlen, ho, hob⟩ := hI
  subst ee
  rw [rngD_len0, Nat.zero_add] at hl
  have hpl : pureL l = true := pureL_of fun y hy => (hmm y hy).1.pure
  have e2' : f__law_any [.cel n, .lst [.int 1, .int 1, .int 2, .int 3]] s1 = .ok (.int b) s2 := e2
  refine ⟨l, cut s.cel.length s3, ?_, by omega, hmm, Jr.cut hn hj (by omega) ho hob⟩
  have g2 : -100000 ≤ 2 * m ∧ 2 * m ≤ 100000 := by omega
  have gt : gTup s3 [.cel s.cel.length] = some (.tup l) := by unfold gTup; simp [hc]
  have fzz : ∀ c, fz s.cel.length c (.tup l) = .tup l := fun c => fz_pure _ (by simpa [D.pure] using hpl)
  unfold f__law_moments
  rw [defC_ap]
  simp [e1, e2', m1, g2, e3, gt, fzz]
def MoR (p : Mo) : Prop := -50 ≤ p.1 ∧ p.1 ≤ 50 ∧ 1 ≤ p.2 ∧ p.2 ≤ 3 ∧ Int.gcd p.1 p.2 = 1
theorem MoR.ok {p : Mo} (h : MoR p) : MOk p := by obtain ⟨_, _, h1, h2, _⟩ := h; exact ⟨by omega, by omega⟩
theorem isMoL.mo {d : D} (h : isMoL d) : ∃ p : Mo, d = mD p ∧ MoR p := by
  obtain ⟨⟨t, b, e, h1, h2, h3, h4⟩, i, j, hj, e2⟩ := h
  refine ⟨(t, b), e, h1, h2, h3, h4, ?_⟩
  rw [e] at e2
  unfold lowT at e2
  simp only [D.tup.injEq, List.cons.injEq, D.int.injEq, and_true] at e2
  rw [e2.1, e2.2]
  have p := gcd_pos (i := i) hj
  exact Int.gcd_ediv_gcd_ediv_gcd (by omega)
theorem isMoLs : ∀ {l : List D}, (∀ d ∈ l, isMoL d) → ∃ M : List Mo, l = M.map mD ∧ ∀ p ∈ M, MoR p
  | [], _ => ⟨[], rfl, by simp⟩
  | d :: l, h => by
    obtain ⟨p, e, hp⟩ := (h d (by simp)).mo
    obtain ⟨M, e2, hM⟩ := isMoLs (l := l) fun y hy => h y (by simp [hy])
    refine ⟨p :: M, by rw [e, e2]; rfl, fun q hq => ?_⟩
    rcases List.mem_cons.mp hq with rfl | hq
    · exact hp
    · exact hM q hq
theorem moms_ok {n : Nat} {s : Sto} {m : Nat} (h : Jar n s) (hm : m = 1 ∨ m = 2 ∨ m = 3) : ∃ (M : List Mo) (s' : Sto), f__law_moments [.cel n, .int m] s = .ok (.tup (M.map mD)) s' ∧ M.length = 2 * m ∧ (∀ p ∈ M, MoR p) ∧ Jr n s s' := by
  obtain ⟨l, s', e, hl, hd, j⟩ := momentsL_ok (m := (m : Int)) h (by omega)
  obtain ⟨M, rfl, hM⟩ := isMoLs hd
  exact ⟨M, s', e, by simp at hl; omega, hM, j⟩
end G

end
section
namespace G
open PySem PySem.Spec L2
/-! whether values are moments -/
def isFrac (d : D) : Bool := match d with
  | .tup [a, b] => isFrom a (-1000000000000) 1000000000000 && (isFrom b 1 1000000000000 && deq (lowT (cOf a) (cOf b)) (.tup [a, b]))
  | _ => false
theorem okD_lowT {i j : Int} : okD (lowT i j) = true := okT.ok (n := 1) (by unfold lowT okT; refine ⟨by simp, fun y hy => ?_⟩; simp at hy; rcases hy with rfl | rfl <;> (unfold okT; trivial)) (by omega)
theorem deref_lowT {s : Sto} {i j : Int} : deref s (lowT i j) = lowT i j := rfl
@[simp] theorem pow12 {s : Sto} : dPow s (.int 10) (.int 12) = some (.int 1000000000000) := by rfl
theorem is_fraction_ok {s : Sto} {n : Nat} {d : D} (h : okT n d) (hn : n ≤ 60) : f_is_fraction [d, .int 1000000000000] s = .ok (.bl (isFrac d)) s := by
  have hd := h.ok hn
  cases d with
  | tup l =>
    cases n with
    | zero => unfold okT at h; exact h.elim
    | succ n =>
    have hT := h
    have h := okT_tup h
    rcases l with _ | ⟨a, _ | ⟨b, _ | ⟨e, r⟩⟩⟩
    · simp [f_is_fraction, defF_ap, tyN, isiB, dNe, isFrac]
    · simp [f_is_fraction, defF_ap, tyN, isiB, dNe, isFrac]
    · have ha : okT n a := h a (by simp)
      have hb : okT n b := h b (by simp)
      cases e1 : isFrom a (-1000000000000) 1000000000000
      · have e1' := e1
        simp [f_is_fraction, defF_ap, tyN, isiB, dNe, isFrac, is_from_ok ha.isD, e1]
      · obtain ⟨ea, a1, a2⟩ := isFrom_c e1
        cases e2 : isFrom b 1 1000000000000
        · simp [f_is_fraction, defF_ap, tyN, isiB, dNe, isFrac, is_from_ok ha.isD, is_from_ok hb.isD, e1, e2]
        · obtain ⟨eb, b1, b2⟩ := isFrom_c e2
          have lk : ∀ s, f_lowest [a, b] s = .ok (lowT (cOf a) (cOf b)) s := fun s => by
            have := lowest_ok (s := s) (i := cOf a) (j := cOf b) (by omega) (by omega)
            rw [← ea, ← eb] at this
            exact this
          simp [f_is_fraction, defF_ap, tyN, isiB, dNe, dEq, isFrac, is_from_ok ha.isD, is_from_ok hb.isD, e1, e2, lk, deref_lowT, okD_lowT, hd]
    · have : ¬ ((r.length : Int) + 1 + 1 + 1 = 2) := by omega
      simp [f_is_fraction, defF_ap, tyN, isiB, dNe, isFrac, this]
  | _ => first | (unfold okT at h; exact h.elim) | simp [f_is_fraction, defF_ap, tyN, isiB, isFrac]
def areMoments (c : Int) (d : D) : Bool := match d with
  | .tup l => decide ((l.length : Int) = 2 * c) && l.all isFrac
  | _ => false
theorem good_moments_ok {s : Sto} {c : Int} {n : Nat} {d : D} (h : okT n d) (hn : n ≤ 60) (hc : -1000 < c ∧ c < 1000) : f_are_good_moments [.int c, d] s = .ok (.bl (areMoments c d)) s := by
  have m1 : ∀ s, dMul s (.int 2) (.int c) = some (.int (2 * c)) := fun _ => dMul_ii (by omega) (by omega)
  cases d with
  | tup l =>
    cases n with
    | zero => unfold okT at h; exact h.elim
    | succ n =>
    have hT := h
    have h := okT_tup h
    by_cases hl : (l.length : Int) = 2 * c
    · have key : ∀ s, lcL (.nm 2) bYes le_are_good_moments_0 [some (.int c), some (.tup l), none] l s = .ok (l.map fun x => .bl (isFrac x)) s := fun s =>
        lc_map fun x hx => by
          have := is_fraction_ok (s := s) (h x hx) (by omega)
          simp [le_are_good_moments_0, this]
      simp [f_are_good_moments, defF_ap, tyN, isiB, areMoments, dNe, m1, hl, key, gAll_map]
    · simp [f_are_good_moments, defF_ap, tyN, isiB, areMoments, dNe, m1, hl]
  | _ => first | (unfold okT at h; exact h.elim) | simp [f_are_good_moments, defF_ap, tyN, isiB, areMoments]
theorem mD_okT {p : Mo} : okT 1 (mD p) := okT_tupI (by intro y hy; simp at hy; rcases hy with rfl | rfl <;> exact okT_int)
theorem msT {M : List Mo} (h : M.length ≤ 20) : okT 2 (.tup (M.map mD)) := okT_tupI (by intro y hy; obtain ⟨p, _, rfl⟩ := List.mem_map.mp hy; exact mD_okT) (by simp; omega)
theorem need_moments_ok {s : Sto} {m : Nat} {n : Nat} {d : D} (h : okT n d) (hn : n ≤ 60) (hm : m ≤ 3) : f_need_moments [.int m, d] s = (if areMoments m d = true then .ok .non s else .err ⟨"InvalidMoments", none⟩ s) := by
  have g := good_moments_ok (s := s) (c := m) h hn (by omega)
  cases e : areMoments m d <;> (rw [e] at g; simp [f_need_moments, defF_ap, g])
theorem lowT_mD {i j : Int} : lowT i j = mD (lowM i j) := rfl
theorem lowM_self {p : Mo} (h : Int.gcd p.1 p.2 = 1) : lowM p.1 p.2 = p := by
  unfold lowM
  rw [h]
  simp
theorem deq_int_refl {a b : Int} : deq (.tup [.int a, .int b]) (.tup [.int a, .int b]) = true := by simp [deq, deqL]
theorem frac_ok {p : Mo} (h : MoR p) : isFrac (mD p) = true := by
  obtain ⟨h1, h2, h3, h4, h5⟩ := h
  have e := lowM_self h5
  have e2 : lowT p.1 p.2 = mD p := by rw [lowT_mD, e]
  have c1 : isFrom (.int p.1) (-1000000000000) 1000000000000 = true := by simp [isFrom]; omega
  have c2 : isFrom (.int p.2) 1 1000000000000 = true := by simp [isFrom]; omega
  have c3 : deq (lowT p.1 p.2) (.tup [.int p.1, .int p.2]) = true := by rw [e2]; exact deq_int_refl
  show (isFrom (.int p.1) (-1000000000000) 1000000000000 && (isFrom (.int p.2) 1 1000000000000 && deq (lowT (cOf (.int p.1)) (cOf (.int p.2))) (.tup [.int p.1, .int p.2]))) = true
  rw [c1, c2]
  exact c3
theorem areM_ok {m : Nat} {M : List Mo} (hM : M.length = 2 * m) (h : ∀ p ∈ M, MoR p) : areMoments m (.tup (M.map mD)) = true := by
  unfold areMoments
  simp only [List.length_map, hM, Bool.and_eq_true, decide_eq_true_eq, List.all_eq_true]
  refine ⟨by omega, fun x hx => ?_⟩
  obtain ⟨p, hp, rfl⟩ := List.mem_map.mp hx
  exact frac_ok (h p hp)
end G

end
section
namespace G
open PySem PySem.Spec L2
/-! the program's run of a script with told moments -/
theorem pplus_ok {s : Sto} {p q : Mo} (hp : MOk p) (hq : MOk q) : f_plus [mD p, mD q] s = .ok (mD (lowM (p.1 * q.2 + q.1 * p.2) (p.2 * q.2))) s := by
  obtain ⟨h1, h2⟩ := hp
  obtain ⟨h3, h4⟩ := hq
  have m1 : ∀ s, dMul s (.int p.1) (.int q.2) = some (.int (p.1 * q.2)) := fun s => dMul_iR (by omega)
  have m2 : ∀ s, dMul s (.int q.1) (.int p.2) = some (.int (q.1 * p.2)) := fun s => dMul_iR (by omega)
  have m3 : ∀ s, dMul s (.int p.2) (.int q.2) = some (.int (p.2 * q.2)) := fun s => dMul_iR (by omega)
  have hb : p.2 * q.2 ≤ 1048576 * 1048576 := Int.mul_le_mul h2 h4 (by omega) (by omega)
  have lo := lowest_ok (s := s) (i := p.1 * q.2 + q.1 * p.2) (j := p.2 * q.2) (Int.mul_pos h1 h3) (by omega)
  simp [f_plus, defF_ap, mD, m1, m2, m3, lo]
  rfl
theorem pmore_ok {s : Sto} {p : Mo} {n : Int} (h : MOk p) : f_later_by [mD p, .int n] s = .ok (mD (moreM p n)) s := by
  have := pplus_ok (s := s) (p := p) (q := (n, 1)) h ⟨by show (0 : Int) < 1; decide, by show (1 : Int) ≤ 1048576; decide⟩
  have e : mD (n, 1) = .tup [.int n, .int 1] := rfl
  rw [e] at this
  simp [f_later_by, defF_ap, this, moreM]
theorem pless_ok {s : Sto} {p q : Mo} (hp : MOk p) (hq : MOk q) : f_is_less [mD p, mD q] s = .ok (.bl (ltM p q)) s := by
  obtain ⟨h1, h2⟩ := hp
  obtain ⟨h3, h4⟩ := hq
  have m1 : ∀ s, dMul s (.int p.1) (.int q.2) = some (.int (p.1 * q.2)) := fun s => dMul_iR (by omega)
  have m2 : ∀ s, dMul s (.int q.1) (.int p.2) = some (.int (q.1 * p.2)) := fun s => dMul_iR (by omega)
  simp [f_is_less, defF_ap, mD, m1, m2, ltM]
theorem pput_ok {F : List Mo} {i : Nat} {p : Mo} {s : Sto} (h : i < F.length) (hF : F.length ≤ 10) : f_put [.tup (F.map mD), .int i, mD p] s = .ok (.tup ((F.set i p).map mD)) s := by
  have g1 := cutD_pre (l := F.map mD) (k := i) (by simp; omega)
  have g2 := cutD_post (l := F.map mD) (k := i) (by simpa using h)
  have ad : ∀ s, dAdd s (.tup ((F.map mD).take i)) (.tup [mD p]) = some (.tup ((F.map mD).take i ++ [mD p])) := fun s => dAdd_tt (by simp; omega)
  have ad2 : ∀ s, dAdd s (.tup ((F.map mD).take i ++ [mD p])) (.tup ((F.map mD).drop (i + 1))) = some (.tup (((F.map mD).take i ++ [mD p]) ++ (F.map mD).drop (i + 1))) := fun s => dAdd_tt (by simp; omega)
  have e : ((F.map mD).take i ++ [mD p]) ++ (F.map mD).drop (i + 1) = (F.set i p).map mD := by
    rw [List.map_set, List.set_eq_take_append_cons_drop]
    simp [h]
  rw [e] at ad2
  simp [f_put, defF_ap, g1, g2, ad, ad2, -List.append_assoc, -List.map_set]
theorem eCallV_ok {i : Nat} {tbl : List (Str × Fun1)} {gl : EL} {env : Env} {s : Sto} {x : Str} {F : Fun1} (h : env[i]? = some (some (.fn x))) (h2 : tbl.lookup x = some F) : eCallV i tbl gl env s = (gl env s).bind F := by
  unfold eCallV valAt
  rw [h]
  simp [h2]
theorem lcL_p {p : Pat} {f : E} {env env1 : Env} {d y : D} {ds ys : List D} {s s1 s2 : Sto} (hb : p.bind d env = some env1) (hf : f env1 s = .ok y s1) (hr : lcL p bYes f env ds s1 = .ok ys s2) : lcL p bYes f env (d :: ds) s = .ok (y :: ys) s2 := by
  unfold lcL
  simp only [hb, bYes_ap, hf, hr, Res.bind_ok]
theorem pshift_lc {c : Nat} {v : Int} {a b : Option D} {s : Sto} : ∀ {k : Nat} {F : List Mo}, (∀ p ∈ F, MOk p) → k + F.length ≤ 100 → lcL (.tp [.nm 3, .nm 4]) bYes le_shifted_0 [a, some (spT (.sh c v)), some (.fn "later_by"), none, none] (enumD k (F.map mD)) s = .ok ((shMK c v k F).map mD) s
  | k, [], _, _ => rfl
  | k, p :: F, hk0, h => by
    have hr := pshift_lc (c := c) (v := v) (a := a) (b := b) (s := s) (k := k + 1) (F := F) (fun q hq => hk0 q (by simp [hq])) (by simp at h; omega)
    have hp := hk0 p (by simp)
    refine lcL_p (env1 := [a, some (spT (.sh c v)), some (.fn "later_by"), some (.int k), some (mD p)]) (s1 := s) (by simp) ?_ hr
    have cv : ∀ s, eCallV 2 [("later_by", f_later_by)] (lCons (eVar 4) (lCons (eOp gIx (eVar 1) (eC (.int 2))) lNil)) [a, some (spT (.sh c v)), some (.fn "later_by"), some (.int k), some (mD p)] s = .ok (mD (moreM p v)) s := fun s => by
      rw [eCallV_ok (x := "later_by") (F := f_later_by) rfl (by simp [List.lookup])]
      simp [spT, pmore_ok hp]
    by_cases hk : 2 * c ≤ k
    · have hk' : (2 : Int) * c ≤ k := by omega
      simp [le_shifted_0, mul2, cv, hk, hk', spT]
      rw [show D.tup [D.str (Str.ofString "shift"), D.int ↑c, D.int v] = spT (.sh c v) from rfl, cv]
    · have hk' : ¬ (2 : Int) * c ≤ k := by omega
      simp [le_shifted_0, mul2, hk, hk', spT]
@[simp] theorem gEnum_tup {l : List D} : gEnum [.tup l] = some (enumD 0 l) := rfl
theorem pshifted_ok {F : List Mo} {c : Nat} {v : Int} {s : Sto} (hk : ∀ p ∈ F, MOk p) (h : F.length ≤ 100) : f_shifted [.tup (F.map mD), spT (.sh c v), .fn "later_by"] s = .ok (.tup ((shMK c v 0 F).map mD)) s := by
  have := pshift_lc (c := c) (v := v) (a := some (.tup (F.map mD))) (b := none) (s := s) (k := 0) (F := F) hk (by omega)
  simp [f_shifted, defF_ap, this]
structure EP (m : Nat) (x : MS) (e : Env) : Prop where
  len : e.length = 7
  s0 : e[0]? = some (some (.int m))
  s2 : e[2]? = some (some (.tup (x.M.map mD)))
  s3 : e[3]? = some (some (wD x.w))
theorem EP.set {m i : Nat} {x : MS} {e : Env} {o : Option D} (h : EP m x e) (hi : 4 ≤ i) : EP m x (e.set i o) :=
  ⟨by simp [h.len], by rw [sl_ne (by omega)]; exact h.s0, by rw [sl_ne (by omega)]; exact h.s2, by rw [sl_ne (by omega)]; exact h.s3⟩
theorem atI_M {F : List Mo} {i : Nat} (h : i < F.length) : atI (F.map mD) (i : Int) = some (mD (mAt F i)) := by
  rw [atI_nat (by omega) (by simpa using h)]
  simp [mAt, h, List.getD]
section
variable {m : Nat} {s : Sto} {Q : Fl → Env → Sto → Prop}
theorem prun_test {cc : Nat} {x : MS} {t : Tst} {env : Env} (hm : m = 1 ∨ m = 2 ∨ m = 3) (ht : t.ok (2 * m)) (ok : MsOk m cc x) (hcc : cc ≤ 1000) (E : EP m x env) (q : ∀ e, EP m (goM x t) e → Q .nx e s) : Wp (lb_run_so_0 (env.set 5 (some (tD t))) s) Q := by
  obtain ⟨h1, h2, h3, h4⟩ := ht
  have ml := ok.ml
  have a1 := atI_M (F := x.M) (i := t.a) (by omega)
  have a2 := atI_M (F := x.M) (i := t.b) (by omega)
  have a3 := atI_M (F := x.M) (i := t.s) (by omega)
  have k1 : MOk (mAt x.M t.a) := mAt_ok ok.mo _
  have k2 : MOk (mAt x.M t.b) := mAt_ok ok.mo _
  have k3 : MOk (mAt x.M t.s) := mAt_ok ok.mo _
  have p1 := pmore_ok (s := s) (n := t.n) k1
  have p2 := pless_ok (s := s) k2 (moreM_ok (n := t.n) k1)
  have p3 := pmore_ok (s := s) (n := t.k) k3
  have p4 := pput_ok (s := s) (F := x.M) (i := t.at_) (p := moreM (mAt x.M t.s) t.k) (by omega) (by omega)
  have g0 : gIx s (tD t) (.int 0) = some (.int t.a) := by simp [tD]
  have g1 : gIx s (tD t) (.int 1) = some (.int t.b) := by simp [tD]
  have g2 : gIx s (tD t) (.int 2) = some (.int t.n) := by simp [tD]
  have g3 : gIx s (tD t) (.int 3) = some (.int t.at_) := by simp [tD]
  have g4 : gIx s (tD t) (.int 4) = some (.int t.s) := rfl
  have g5 : gIx s (tD t) (.int 5) = some (.int t.k) := rfl
  have el : ltM (mAt x.M t.b) (moreM (mAt x.M t.a) t.n) = lateT x.M t := rfl
  rw [el] at p2
  have aw : dAdd s (wD x.w) (.tup [.bl (lateT x.M t)]) = some (wD (x.w ++ [lateT x.M t])) := by
    unfold wD
    rw [dAdd_tt (by have := ok.wl; simp; omega)]
    simp
  unfold lb_run_so_0
  have E1 := E.set (i := 5) (o := some (tD t)) (by omega)
  have v5 : (env.set 5 (some (tD t)))[5]? = some (some (tD t)) := sl_eq (by rw [E.len]; omega)
  generalize env.set 5 (some (tD t)) = e1 at *
  refine wp_seq ?_
  simp only [sSet_ap, eCall_ap, lCons_ap, lNil_ap, eOp_ap, eC_ap, eVar_k, E1.s2, v5, varK_some, Res.bind_ok, g0, g1, g2, Res.of_some, gIx_tup, a1, a2, p1, p2, Res.st_ok, Wp_ok, SQ_nx]
  have E2 := E1.set (i := 6) (o := some (.bl (lateT x.M t))) (by omega)
  have w5 : (e1.set 6 (some (.bl (lateT x.M t))))[5]? = some (some (tD t)) := by rw [sl_ne (by omega)]; exact v5
  have w6 : (e1.set 6 (some (.bl (lateT x.M t))))[6]? = some (some (.bl (lateT x.M t))) := sl_eq (by rw [E1.len]; omega)
  generalize e1.set 6 (some (.bl (lateT x.M t))) = e2 at *
  refine wp_seq ?_
  simp only [sSet_ap, eOp_ap, eTup_ap, lCons_ap, lNil_ap, eVar_k, E2.s3, w6, varK_some, Res.bind_ok, aw, Res.of_some, Res.st_ok, Wp_ok, SQ_nx]
  have x2 : (e2.set 3 (some (wD (x.w ++ [lateT x.M t]))))[2]? = some (some (.tup (x.M.map mD))) := by rw [sl_ne (by omega)]; exact E2.s2
  have x0 : (e2.set 3 (some (wD (x.w ++ [lateT x.M t]))))[0]? = some (some (.int m)) := by rw [sl_ne (by omega)]; exact E2.s0
  have x3 : (e2.set 3 (some (wD (x.w ++ [lateT x.M t]))))[3]? = some (some (wD (x.w ++ [lateT x.M t]))) := sl_eq (by rw [E2.len]; omega)
  have x5 : (e2.set 3 (some (wD (x.w ++ [lateT x.M t]))))[5]? = some (some (tD t)) := by rw [sl_ne (by omega)]; exact w5
  have x6 : (e2.set 3 (some (wD (x.w ++ [lateT x.M t]))))[6]? = some (some (.bl (lateT x.M t))) := by rw [sl_ne (by omega)]; exact w6
  have xl : (e2.set 3 (some (wD (x.w ++ [lateT x.M t])))).length = 7 := by simp [E2.len]
  generalize e2.set 3 (some (wD (x.w ++ [lateT x.M t]))) = e3 at *
  cases hl : lateT x.M t with
  | true =>
    have eg : goM x t = ⟨x.M.set t.at_ (moreM (mAt x.M t.s) t.k), x.w ++ [true]⟩ := by unfold goM; rw [hl]; rfl
    rw [eg] at q
    rw [hl] at x3 x6
    simp only [sIf_ap, bVal_ap, eVar_k, x6, varK_some, Res.bind_ok, asB_bl, Res.of_some, Res.st_ok, if_true, sSet_ap, eCall_ap, lCons_ap, lNil_ap, eOp_ap, eC_ap, x2, x5, g3, g4, g5, gIx_tup, a3, p3, p4, Wp_ok]
    exact q _ ⟨by simp [xl], by rw [sl_ne (by omega)]; exact x0, sl_eq (by rw [xl]; omega), by rw [sl_ne (by omega)]; exact x3⟩
  | false =>
    have eg : goM x t = ⟨x.M, x.w ++ [false]⟩ := by unfold goM; rw [hl]; rfl
    rw [eg] at q
    rw [hl] at x3 x6
    simp only [sIf_ap, bVal_ap, eVar_k, x6, varK_some, Res.bind_ok, asB_bl, Res.of_some, Res.st_ok, Bool.false_eq_true, if_false, sNx_ap, Wp_ok]
    exact q _ ⟨xl, x0, x2, x3⟩
theorem prun_tests (hm : m = 1 ∨ m = 2 ∨ m = 3) : ∀ (ts : List Tst) {cc : Nat} {x : MS} {env : Env}, (∀ t ∈ ts, t.ok (2 * m)) → cc + ts.length ≤ 1000 → MsOk m cc x → EP m x env →
    (∀ e, EP m (ts.foldl goM x) e → MsOk m (cc + ts.length) (ts.foldl goM x) → Q .nx e s) → Wp (forL (.nm 5) lb_run_so_0 (ts.map tD) env s) Q
  | [], cc, x, env, _, _, ok, E, q => q env E ok
  | t :: ts, cc, x, env, ht, hc, ok, E, q => by
    rw [List.map_cons]
    refine forW bind_nm ?_
    refine prun_test hm (ht t (by simp)) ok (by simp at hc; omega) E (fun e E' => ?_)
    rw [LQ_nx]
    refine prun_tests hm ts (cc := cc + 1) (fun y hy => ht y (by simp [hy])) (by simp at hc; omega) ok.go E' (fun e2 E2 ok2 => q e2 E2 ?_)
    rw [List.length_cons, show cc + (ts.length + 1) = cc + 1 + ts.length from by omega]
    exact ok2
theorem tests_len {sp : Sp} (hm : m = 1 ∨ m = 2 ∨ m = 3) : (testsL m sp).length ≤ m := by
  rw [testsL, List.length_map, ← cues_filter hm]
  exact Nat.le_trans (List.length_filter_le ..) (by simp)
theorem prun_step {sp : Sp} {cc : Nat} {x : MS} {env : Env} (hm : m = 1 ∨ m = 2 ∨ m = 3) (hcc : cc + m ≤ 1000) (ok : MsOk m cc x) (E : EP m x env)
    (q : ∀ e, EP m (runSt m x sp) e → MsOk m (cc + m) (runSt m x sp) → Q .nx e s) : Wp (lb_run_so_1 (env.set 4 (some (spT sp))) s) Q := by
  have g0 : gIx s (spT sp) (.int 0) = some (.str (spK sp)) := by cases sp <;> simp [spT, spK]
  have de : dEq s (.str (spK sp)) (.str "shift") = some (.bl (spK sp == "shift")) := dEq_ss (by cases sp <;> first | exact okD_shift | exact okD_later | exact okD_earlier | exact okD_longer | exact okD_shorter) okD_shift
  have tl := tests_len (sp := sp) hm
  have E1 := E.set (i := 4) (o := some (spT sp)) (by omega)
  have v4 : (env.set 4 (some (spT sp)))[4]? = some (some (spT sp)) := sl_eq (by rw [E.len]; omega)
  generalize env.set 4 (some (spT sp)) = e1 at *
  have ok2 : MsOk m cc (shM sp x) := by
    rw [shM_M]
    exact ⟨by rw [shM_len]; exact ok.ml, shM_ok ok.mo, ok.wl⟩
  have tail : ∀ e, EP m (shM sp x) e → e[4]? = some (some (spT sp)) → Wp (sFor (.nm 5) (iSeq (eCall f_tests_of (lCons (eVar 0) (lCons (eVar 4) (lNil))))) (lb_run_so_0) e s) Q := fun e E2 v4 => by
    simp only [sFor_ap, iSeq_ap, eCall_ap, lCons_ap, lNil_ap, eVar_k, E2.s0, v4, varK_some, Res.bind_ok, tests_of_ok hm, seqOf_lst, Res.of_some, Res.st_ok]
    refine prun_tests hm (testsL m sp) (cc := cc) (fun t ht => testsL_ok hm ht) (by omega) ok2 E2 (fun e2 E3 ok3 => q e2 E3 (ok3.le (by omega)))
  unfold lb_run_so_1
  refine wp_seq ?_
  cases sp with
  | sh c v =>
    have ps := pshifted_ok (s := s) (F := x.M) (c := c) (v := v) ok.mo (by have := ok.ml; omega)
    have b1 : (spK (.sh c v) == "shift") = true := by show (("shift" : Str) == "shift") = true; decide +kernel
    rw [b1] at de
    simp only [sIf_ap, bVal_ap, eOp_ap, eC_ap, eVar_k, v4, varK_some, Res.bind_ok, g0, de, asB_bl, Res.of_some, Res.st_ok, if_true, sSet_ap, eCall_ap, lCons_ap, lNil_ap, E1.s2, ps, Wp_ok, SQ_nx]
    refine tail _ ⟨by simp [E1.len], by rw [sl_ne (by omega)]; exact E1.s0, sl_eq (by rw [E1.len]; omega), by rw [sl_ne (by omega)]; exact E1.s3⟩ (by rw [sl_ne (by omega)]; exact v4)
  | la v =>
    have b1 : (spK (.la v) == "shift") = false := by show (("later" : Str) == "shift") = false; decide +kernel
    rw [b1] at de
    simp only [sIf_ap, bVal_ap, eOp_ap, eC_ap, eVar_k, v4, varK_some, Res.bind_ok, g0, de, asB_bl, Res.of_some, Res.st_ok, Bool.false_eq_true, if_false, sNx_ap, Wp_ok, SQ_nx]
    exact tail _ E1 v4
  | ea v =>
    have b1 : (spK (.ea v) == "shift") = false := by show (("earlier" : Str) == "shift") = false; decide +kernel
    rw [b1] at de
    simp only [sIf_ap, bVal_ap, eOp_ap, eC_ap, eVar_k, v4, varK_some, Res.bind_ok, g0, de, asB_bl, Res.of_some, Res.st_ok, Bool.false_eq_true, if_false, sNx_ap, Wp_ok, SQ_nx]
    exact tail _ E1 v4
  | lo v =>
    have b1 : (spK (.lo v) == "shift") = false := by show (("longer" : Str) == "shift") = false; decide +kernel
    rw [b1] at de
    simp only [sIf_ap, bVal_ap, eOp_ap, eC_ap, eVar_k, v4, varK_some, Res.bind_ok, g0, de, asB_bl, Res.of_some, Res.st_ok, Bool.false_eq_true, if_false, sNx_ap, Wp_ok, SQ_nx]
    exact tail _ E1 v4
  | so v =>
    have b1 : (spK (.so v) == "shift") = false := by show (("shorter" : Str) == "shift") = false; decide +kernel
    rw [b1] at de
    simp only [sIf_ap, bVal_ap, eOp_ap, eC_ap, eVar_k, v4, varK_some, Res.bind_ok, g0, de, asB_bl, Res.of_some, Res.st_ok, Bool.false_eq_true, if_false, sNx_ap, Wp_ok, SQ_nx]
    exact tail _ E1 v4
theorem prun_steps (hm : m = 1 ∨ m = 2 ∨ m = 3) : ∀ (ss : List Sp) {cc : Nat} {x : MS} {env : Env}, cc + m * ss.length ≤ 1000 → MsOk m cc x → EP m x env →
    (∀ e, EP m (ss.foldl (runSt m) x) e → Q .nx e s) → Wp (forL (.nm 4) lb_run_so_1 (ss.map spT) env s) Q
  | [], cc, x, env, _, ok, E, q => q env E
  | sp :: ss, cc, x, env, hc, ok, E, q => by
    rw [List.length_cons, Nat.mul_add, Nat.mul_one] at hc
    rw [List.map_cons]
    refine forW bind_nm ?_
    refine prun_step (sp := sp) (cc := cc) hm (by omega) ok E (fun e E' ok' => ?_)
    rw [LQ_nx]
    exact prun_steps hm ss (cc := cc + m) (by omega) ok' E' q
end
theorem run_so_ok {s : Sto} {m : Nat} {ss : List Sp} {M : List Mo} (hm : m = 1 ∨ m = 2 ∨ m = 3) (hs : ss.length ≤ 100) (hM : M.length = 2 * m) (hk : ∀ p ∈ M, MOk p) : f_run_so [.int m, scrD ss, .tup (M.map mD)] s = .ok (.tup [.tup ((runM m ss M).M.map mD), wD (runM m ss M).w]) s := by
  have hms : m * ss.length ≤ 300 := by
    have : m * ss.length ≤ 3 * ss.length := Nat.mul_le_mul_right _ (by omega)
    omega
  unfold f_run_so scrD
  refine of_wpF ?_
  have st : startE 7 [.int m, .tup (ss.map spT), .tup (M.map mD)] = [some (.int m), some (.tup (ss.map spT)), some (.tup (M.map mD)), none, none, none, none] := rfl
  rw [st]
  refine wp_seq ?_
  simp only [sSet_ap, eTup_ap, lNil_ap, Res.bind_ok, Res.st_ok, Wp_ok, SQ_nx, List.set_cons_succ, List.set_cons_zero]
  refine wp_seq ?_
  simp only [sFor_ap, iSeq_ap, eVar_k, List.getElem?_cons_succ, List.getElem?_cons_zero, varK_some, Res.bind_ok, seqOf_tup, Res.of_some, Res.st_ok]
  refine prun_steps hm ss (cc := 0) (x := ⟨M, []⟩) (by omega) ⟨hM, hk, Nat.le_refl _⟩ ⟨rfl, rfl, rfl, rfl⟩ (fun e E => ?_)
  rw [SQ_nx]
  simp only [sRet_ap, eTup_ap, lCons_ap, lNil_ap, eVar_k, E.s2, E.s3, varK_some, Res.bind_ok, Res.st_ok, Wp_ok]
  exact ⟨.inl rfl, trivial⟩
end G

end
section
namespace G
open PySem PySem.Spec L2
theorem book1 {m : Nat} {gs : List Gp} {s : Sto} : gIx s (bookD m gs) (.int 1) = some (.tup (gs.map gpD)) := by simp [bookD]
theorem book0 {m : Nat} {gs : List Gp} {s : Sto} : gIx s (bookD m gs) (.int 0) = some (.int m) := by simp [bookD]
theorem Case.needs {m : Nat} {gs : List Gp} {ss : List Sp} (C : Case m gs ss) {s : Sto} : f_need_book [bookD m gs] s = .ok .non s ∧ f_need_script [.int m, scrD ss] s = .ok .non s := needs_ok C.hm C.hg C.hgs C.hl C.hs
section
variable {m : Nat} {gs : List Gp} {ss : List Sp} {M : List Mo} {s : Sto}
theorem needM {M : List Mo} (hm : m = 1 ∨ m = 2 ∨ m = 3) (hM : M.length = 2 * m) (hR : ∀ p ∈ M, MoR p) : f_need_moments [.int m, .tup (M.map mD)] s = .ok .non s := by
  rw [need_moments_ok (msT (by omega)) (by omega) (by omega), areM_ok hM hR]
  rfl
theorem behind_ok (C : Case m gs ss) (hM : M.length = 2 * m) (hR : ∀ p ∈ M, MoR p) : f_behind [bookD m gs, scrD ss, .tup (M.map mD)] s = .ok (.tup ((runM m ss M).M.map mD)) s ∧ f_word_of [bookD m gs, scrD ss, .tup (M.map mD)] s = .ok (wD (runM m ss M).w) s := by
  have n1 := fun s => (C.needs (s := s)).1
  have n2 := fun s => (C.needs (s := s)).2
  have n3 := fun s => needM (s := s) C.hm hM hR
  have r := fun s => run_so_ok (s := s) (ss := ss) C.hm (by have := C.hl; omega) hM (fun p hp => (hR p hp).ok)
  constructor
  · simp [f_behind, defF_ap, n1, book0, n2, n3, r]
  · simp [f_word_of, defF_ap, n1, book0, n2, n3, r]
theorem moments_bad {n : Nat} {d : D} (C : Case m gs ss) (h : okT n d) (hn : n ≤ 60) (hd : areMoments m d = false) : f_behind [bookD m gs, scrD ss, d] s = .err ⟨"InvalidMoments", none⟩ s ∧ f_word_of [bookD m gs, scrD ss, d] s = .err ⟨"InvalidMoments", none⟩ s ∧ f_keeps [bookD m gs, d] s = .err ⟨"InvalidMoments", none⟩ s := by
  have n1 := fun s => (C.needs (s := s)).1
  have n2 := fun s => (C.needs (s := s)).2
  have hm := C.hm
  have n3 : ∀ s, f_need_moments [.int m, d] s = .err ⟨"InvalidMoments", none⟩ s := fun s => by
    rw [need_moments_ok h hn (by omega), hd]
    rfl
  refine ⟨?_, ?_, ?_⟩
  · simp [f_behind, defF_ap, n1, book0, n2, n3]
  · simp [f_word_of, defF_ap, n1, book0, n2, n3]
  · simp [f_keeps, defF_ap, n1, book0, n3]
theorem script_bad {n : Nat} {d e : D} (hm : m = 1 ∨ m = 2 ∨ m = 3) (h : okT n d) (hn : n ≤ 60) (hd : isScript m d = false) : f_behind [bookD m [], d, e] s = .err ⟨"InvalidScript", none⟩ s := by
  have C : Case m [] [] := ⟨hm, by simp, by simp, by simp, by simp⟩
  have n1 := fun s => (C.needs (s := s)).1
  have n2 : ∀ s, f_need_script [.int m, d] s = .err ⟨"InvalidScript", none⟩ s := fun s => by simp [f_need_script, defF_ap, good_script_ok h hn, hd]
  simp [f_behind, defF_ap, n1, book0, n2]
theorem is_kept_ok {g : Gp} (hM : M.length = 2 * m) (hk : ∀ p ∈ M, MOk p) (hg : Gp.ok m g) : f_is_kept [.tup (M.map mD), gpD g] s = .ok (.bl (keepG M g)) s := by
  obtain ⟨i, j, v, e, h1, h2, h3, h4, h5, h6, h7⟩ := id hg
  obtain ⟨a, b, w⟩ := g
  unfold gpD at e
  simp only [D.tup.injEq, List.cons.injEq, D.int.injEq, and_true] at e
  obtain ⟨rfl, rfl, rfl⟩ := e
  have x1 : ∀ (s : Sto) (i : Int), 0 ≤ i → i < 2 * (m : Int) → gIx s (.tup (M.map mD)) (.int i) = some (mD (mAt M i.toNat)) := fun s i h0 h1 => by
    rw [gIx_tup]
    have hlt : i.toNat < M.length := by omega
    refine atI_at (i := i.toNat) (by omega) ?_
    rw [List.getElem?_map, List.getElem?_eq_getElem hlt]
    unfold mAt
    rw [List.getD_eq_getElem?_getD, List.getElem?_eq_getElem hlt]
    rfl
  have pl := pplus_ok (s := s) (p := mAt M a.toNat) (q := (w, 1)) (mAt_ok hk _) ⟨by show (0 : Int) < 1; decide, by show (1 : Int) ≤ 1048576; decide⟩
  have e1 : mD (w, 1) = .tup [.int w, .int 1] := rfl
  rw [e1] at pl
  have e2 : lowM ((mAt M a.toNat).1 * 1 + w * (mAt M a.toNat).2) ((mAt M a.toNat).2 * 1) = moreM (mAt M a.toNat) w := rfl
  simp only [e2] at pl
  have pb := pless_ok (s := s) (p := mAt M b.toNat) (q := moreM (mAt M a.toNat) w) (mAt_ok hk _) (moreM_ok (mAt_ok hk _))
  have g0 : ∀ s, gIx s (gpD (a, b, w)) (.int 0) = some (.int a) := fun s => by simp [gpD]
  have g1 : ∀ s, gIx s (gpD (a, b, w)) (.int 1) = some (.int b) := fun s => by simp [gpD]
  have g2 : ∀ s, gIx s (gpD (a, b, w)) (.int 2) = some (.int w) := fun s => by simp [gpD]
  unfold f_is_kept
  refine of_wpF ?_
  have st : startE 2 [.tup (M.map mD), gpD (a, b, w)] = [some (.tup (M.map mD)), some (gpD (a, b, w))] := rfl
  rw [st]
  simp only [sRet_ap, eNot_ap, eCall_ap, lCons_ap, lNil_ap, eOp_ap, eTup_ap, eC_ap, eVar_k, List.getElem?_cons_succ, List.getElem?_cons_zero, varK_some, Res.bind_ok, g0, g1, g2, Res.of_some, x1 _ a h1 h2, x1 _ b h3 h4, pl, pb]
  exact ⟨.inl rfl, rfl⟩
theorem keeps_ok (C : Case m gs ss) (hM : M.length = 2 * m) (hR : ∀ p ∈ M, MoR p) : f_keeps [bookD m gs, .tup (M.map mD)] s = .ok (.bl (gs.all (keepG M))) s := by
  have n1 := fun s => (C.needs (s := s)).1
  have n3 := fun s => needM (s := s) C.hm hM hR
  have key : ∀ s, lcL (.nm 2) bYes le_keeps_0 [some (bookD m gs), some (.tup (M.map mD)), none] (gs.map gpD) s = .ok (gs.map fun g => .bl (keepG M g)) s := fun s =>
    lc_mapL fun g hg => by
      have := is_kept_ok (s := s) hM (fun p hp => (hR p hp).ok) (C.hgs g hg)
      simp [le_keeps_0, this]
  have ga : ∀ s, gAll s [.lst (gs.map fun g => .bl (keepG M g))] = some (.bl (gs.all (keepG M))) := fun s => by
    unfold gAll
    simp only [asBools_map, Option.map_some, List.all_map]
    rfl
  simp [f_keeps, defF_ap, n1, book0, book1, n3, key, ga]
end
end G

end
section
namespace G
open PySem PySem.Spec L2
theorem deqL_refl : ∀ {l : List D}, (∀ y ∈ l, deq y y = true) → deqL l l = true
  | [], _ => by simp
  | d :: l, h => by simp [h d (List.mem_cons_self ..), deqL_refl fun y hy => h y (List.mem_cons_of_mem _ hy)]
theorem deq_refl : ∀ (n : Nat) (d : D), okT n d → deq d d = true := by
  intro n
  induction n with
  | zero =>
    intro d h
    cases d <;> first | (unfold okT at h; exact h.elim) | (simp [deq]; done)
  | succ n ih =>
    intro d h
    cases d with
    | tup l => simp [deqL_refl fun y hy => ih y (okT_tup h y hy)]
    | lst l => simp [deqL_refl fun y hy => ih y (okT_lst h y hy)]
    | _ => first | (unfold okT at h; exact h.elim) | (simp [deq]; done)
theorem dNe_refl {n : Nat} {d : D} {s : Sto} (h : okT n d) (hn : n ≤ 60) : dNe s d d = some (.bl false) := by
  simp [dNe, h.deref, h.ok hn, deq_refl n d h]
/-! ### values that are none -/
@[simp] theorem ne_ms : ((Str.ofString "InvalidMoments") = (Str.ofString "InvalidScript")) = False := eq_false (by decide +kernel)
@[simp] theorem in_mo : ((Str.ofString "InvalidMoments") ∈ kn__law_word) = True := eq_true (by decide +kernel)
@[simp] theorem in_sc : ((Str.ofString "InvalidScript") ∈ kn__law_word) = True := eq_true (by decide +kernel)
theorem tell_mo {f : E} {env : Env} {s : Sto} (h : f env s = .err { cls := "InvalidMoments" } s) : eLamK kn__law_word hs__law_word (some "none") f env s = .ok (.str "moments") s := by
  unfold eLamK tellK
  rw [h]
  simp [pickX, hs__law_word]
theorem tell_sc {f : E} {env : Env} {s : Sto} (h : f env s = .err { cls := "InvalidScript" } s) : eLamK kn__law_word hs__law_word (some "none") f env s = .ok (.str "script") s := by
  unfold eLamK tellK
  rw [h]
  simp [pickX, hs__law_word]
theorem dNe_ss {x y : Str} {s : Sto} (hx : okD (.str x) = true) (hy : okD (.str y) = true) : dNe s (.str x) (.str y) = some (.bl (!(x == y))) := by
  simp [dNe, hx, hy]
theorem okD_moments : okD (.str "moments") = true := by decide +kernel
theorem okD_script : okD (.str "script") = true := by decide +kernel
theorem lk_b : List.lookup ("behind" : Str) [("behind", f_behind), ("word_of", f_word_of)] = some f_behind := by simp [List.lookup]
theorem lk_w : List.lookup ("word_of" : Str) [("behind", f_behind), ("word_of", f_word_of)] = some f_word_of := by
  have : (("word_of" : Str) == ("behind" : Str)) = false := by decide +kernel
  simp [List.lookup, this]
section
variable {m : Nat} {ss : List Sp} {M : List Mo} {s : Sto} {Q : Fl → Env → Sto → Prop}
structure EOd (m : Nat) (ss : List Sp) (M : List Mo) (env : Env) : Prop where
  len : env.length = 5
  s0 : env[0]? = some (some (.int m))
  s1 : env[1]? = some (some (scrD ss))
  s2 : env[2]? = some (some (.tup (M.map mD)))
theorem EOd.set {env : Env} {i : Nat} {o : Option D} (h : EOd m ss M env) (hi : 3 ≤ i) : EOd m ss M (env.set i o) :=
  ⟨by simp [h.len], by rw [sl_ne (by omega)]; exact h.s0, by rw [sl_ne (by omega)]; exact h.s1, by rw [sl_ne (by omega)]; exact h.s2⟩
theorem bk0 : D.tup [.int m, .tup []] = bookD m [] := rfl
theorem odd_call {x : Str} {env : Env} {d : D} (hx : x = "behind" ∨ x = "word_of") (C : Case m [] ss) (hd : okT 3 d) (hg : areMoments m d = false) (E : EOd m ss M env) (v3 : env[3]? = some (some d)) (v4 : env[4]? = some (some (.fn x))) : lb__law_refused_0 env s = .ok .nx env s := by
  have gb := fun s => moments_bad (s := s) C hd (by omega) hg
  have t : eLamK kn__law_word hs__law_word (some "none") ll__law_refused_0 env s = .ok (.str "moments") s := tell_mo (by
    unfold ll__law_refused_0
    rcases hx with rfl | rfl
    · rw [eCallV_ok v4 lk_b]
      simp only [lCons_ap, lNil_ap, eTup_ap, eVar_k, E.s0, E.s1, v3, varK_some, Res.bind_ok, bk0, (gb s).1]
    · rw [eCallV_ok v4 lk_w]
      simp only [lCons_ap, lNil_ap, eTup_ap, eVar_k, E.s0, E.s1, v3, varK_some, Res.bind_ok, bk0, (gb s).2.1])
  simp only [lb__law_refused_0, sIf_ap, bVal_ap, eOp_ap, t, eC_ap, Res.bind_ok, dNe_ss okD_moments okD_moments, BEq.rfl, Bool.not_true, Res.of_some, asB_bl, Bool.false_eq_true, if_false, Res.st_ok, sNx_ap]
theorem odd_moms (C : Case m [] ss) : ∀ (ds : List D) {env : Env}, (∀ d ∈ ds, okT 3 d ∧ areMoments m d = false) → EOd m ss M env → (∀ e, EOd m ss M e → Q .nx e s) → Wp (forL (.nm 3) lb__law_refused_1 ds env s) Q
  | [], env, _, E, q => q env E
  | d :: ds, env, hd, E, q => by
    obtain ⟨h1, h2⟩ := hd d (by simp)
    refine forW bind_nm ?_
    have E1 := E.set (i := 3) (o := some d) (by omega)
    have v3 : (env.set 3 (some d))[3]? = some (some d) := sl_eq (by rw [E.len]; omega)
    generalize env.set 3 (some d) = e1 at *
    unfold lb__law_refused_1
    refine wp_seq ?_
    simp only [sFor_ap, iSeq_ap, eLst_ap, lCons_ap, lNil_ap, eC_ap, Res.bind_ok, seqOf_lst, Res.of_some, Res.st_ok]
    refine forW bind_nm ?_
    have E2 := E1.set (i := 4) (o := some (.fn "behind")) (by omega)
    rw [odd_call (.inl rfl) C h1 h2 E2 (by rw [sl_ne (by omega)]; exact v3) (sl_eq (by rw [E1.len]; omega))]
    simp only [Wp_ok, LQ_nx]
    refine forW bind_nm ?_
    have E3 := E2.set (i := 4) (o := some (.fn "word_of")) (by omega)
    rw [odd_call (.inr rfl) C h1 h2 E3 (by rw [sl_ne (by omega), sl_ne (by omega)]; exact v3) (sl_eq (by rw [E2.len]; omega))]
    simp only [Wp_ok, LQ_nx, forL_n, SQ_nx]
    have w3 : ((e1.set 4 (some (.fn "behind"))).set 4 (some (.fn "word_of")))[3]? = some (some d) := by rw [sl_ne (by omega), sl_ne (by omega)]; exact v3
    generalize (e1.set 4 (some (.fn "behind"))).set 4 (some (.fn "word_of")) = e2 at *
    have t : eLamK kn__law_word hs__law_word (some "none") ll__law_refused_1 e2 s = .ok (.str "moments") s := tell_mo (by
      have gb := fun s => moments_bad (s := s) C h1 (by omega) h2
      simp only [ll__law_refused_1, eCall_ap, lCons_ap, lNil_ap, eTup_ap, eVar_k, E3.s0, w3, varK_some, Res.bind_ok, bk0, (gb s).2.2])
    simp only [sIf_ap, bVal_ap, eOp_ap, t, eC_ap, Res.bind_ok, dNe_ss okD_moments okD_moments, BEq.rfl, Bool.not_true, Res.of_some, asB_bl, Bool.false_eq_true, if_false, Res.st_ok, sNx_ap, Wp_ok, LQ_nx]
    exact odd_moms C ds (fun x hx => hd x (by simp [hx])) E3 q
theorem odd_scrs (hm : m = 1 ∨ m = 2 ∨ m = 3) : ∀ (ds : List D) {env : Env}, (∀ d ∈ ds, okT 3 d ∧ isScript m d = false) → EOd m ss M env → (∀ e, EOd m ss M e → Q .nx e s) → Wp (forL (.nm 3) lb__law_refused_2 ds env s) Q
  | [], env, _, E, q => q env E
  | d :: ds, env, hd, E, q => by
    obtain ⟨h1, h2⟩ := hd d (by simp)
    refine forW bind_nm ?_
    have E1 := E.set (i := 3) (o := some d) (by omega)
    have v3 : (env.set 3 (some d))[3]? = some (some d) := sl_eq (by rw [E.len]; omega)
    generalize env.set 3 (some d) = e1 at *
    have t : eLamK kn__law_word hs__law_word (some "none") ll__law_refused_2 e1 s = .ok (.str "script") s := tell_sc (by
      have gb := fun s => script_bad (s := s) (e := .non) hm h1 (by omega) h2
      simp only [ll__law_refused_2, eCall_ap, lCons_ap, lNil_ap, eTup_ap, eVar_k, eC_ap, E1.s0, v3, varK_some, Res.bind_ok, bk0, (gb s)])
    simp only [lb__law_refused_2, sIf_ap, bVal_ap, eOp_ap, t, eC_ap, Res.bind_ok, dNe_ss okD_script okD_script, BEq.rfl, Bool.not_true, Res.of_some, asB_bl, Bool.false_eq_true, if_false, Res.st_ok, sNx_ap, Wp_ok, LQ_nx]
    exact odd_scrs hm ds (fun x hx => hd x (by simp [hx])) E1 q
theorem okT_mom {p : Mo} : okT 2 (mD p) := mD_okT.le (by omega)
theorem spT_okT {m : Nat} {sp : Sp} (h : sp.ok m) (hm : m ≤ 3) : okT 2 (spT sp) := (spT_ok h hm).2
theorem refused_ok (C : Case m [] ss) (hM : M.length = 2 * m) : f__law_refused [.int m, scrD ss, .tup (M.map mD)] s = .ok (.bl true) s := by
  have hm := C.hm
  unfold f__law_refused
  refine of_wpF ?_
  have st : startE 5 [.int m, scrD ss, .tup (M.map mD)] = [some (.int m), some (scrD ss), some (.tup (M.map mD)), none, none] := rfl
  rw [st]
  have E0 : EOd m ss M [some (.int m), some (scrD ss), some (.tup (M.map mD)), none, none] := ⟨rfl, rfl, rfl, rfl⟩
  generalize ([some (.int m), some (scrD ss), some (.tup (M.map mD)), none, none] : Env) = env at *
  have c1 : gSl s (.tup (M.map mD)) (some 1) none = some (.tup ((M.drop 1).map mD)) := by
    have := cutD_post (l := M.map mD) (k := 0) (by simp; omega)
    show some (D.tup (cutD (M.map mD) (some 1) none)) = _
    rw [show ((1 : Int)) = ((0 : Nat) : Int) + 1 from rfl, this, List.map_drop]
  have c2 : gSl s (.tup (M.map mD)) none (some (-1)) = some (.tup ((M.take (2 * m - 1)).map mD)) := by
    show some (D.tup (cutD (M.map mD) none (some (-1)))) = _
    unfold cutD
    have e1 : HT.sIx (M.map mD).length (M.map mD).length (some (-1)) = 2 * m - 1 := by
      rw [List.length_map, hM]
      unfold HT.sIx
      simp
      omega
    rw [e1, HT.sIx_none, List.drop_zero, Nat.sub_zero, List.map_take]
  have c3 : gLst s [.tup (M.map mD)] = some (.lst (M.map mD)) := rfl
  have c4 : dAdd s (.tup ((M.take (2 * m - 1)).map mD)) (.tup [.tup [.int 2, .int 4]]) = some (.tup ((M.take (2 * m - 1)).map mD ++ [.tup [.int 2, .int 4]])) := dAdd_tt (by simp; omega)
  have c5 : dMul s (.tup (M.map mD)) (.int 2) = some (.tup (M.map mD ++ M.map mD)) := dMul_t2 (by intro z; have := congrArg List.length z; rw [List.length_map, hM] at this; simp only [List.length_nil] at this; omega) (by simp; omega)
  have a1 : asI (.int 1) = some 1 := rfl
  have a2 : asI (.int (-1)) = some (-1) := rfl
  have c6 : gLst s [scrD ss] = some (.lst (ss.map spT)) := rfl
  refine wp_seq ?_
  simp only [sFor_ap, iSeq_ap, eLst_ap, lCons_ap, lNil_ap, eC_ap, eTup_ap, eSl_ap, oSome_ap, oNone_ap, eFn_ap, eOp_ap, eUn_ap, dNeg_i, eVar_k, E0.s2, varK_some, Res.bind_ok, a1, a2, Option.map_some, Res.of_some, c1, c2, c3, c4, c5, seqOf_lst, Res.of_some, Res.st_ok]
  refine odd_moms C _ (fun d hd => ?_) E0 (fun e1 E1 => ?_)
  · simp only [List.mem_cons, List.not_mem_nil, or_false] at hd
    have bd : isFrac (.tup [.int 2, .int 4]) = false := by decide +kernel
    rcases hd with rfl | rfl | rfl | rfl | rfl | rfl
    · exact ⟨okT_non, rfl⟩
    · exact ⟨okT_tupI (by simp), by simp [areMoments]; omega⟩
    · exact ⟨(msT (M := M.drop 1) (by simp; omega)).le (by omega), by simp [areMoments]; intro z; omega⟩
    · exact ⟨okT_lstI (by intro y hy; obtain ⟨p, _, rfl⟩ := List.mem_map.mp hy; exact okT_mom) (by simp; omega), rfl⟩
    · refine ⟨okT_tupI (fun y hy => ?_) (by simp; omega), ?_⟩
      · rcases List.mem_append.mp hy with hy | hy
        · obtain ⟨p, _, rfl⟩ := List.mem_map.mp hy
          exact okT_mom
        · rw [List.mem_singleton.mp hy]
          exact okT_tupI (by simp)
      · simp [areMoments, bd]
    · refine ⟨okT_tupI (fun y hy => ?_) (by simp; omega), ?_⟩
      · rcases List.mem_append.mp hy with hy | hy <;> (obtain ⟨p, _, rfl⟩ := List.mem_map.mp hy; exact okT_mom)
      · simp [areMoments]
        intro z
        omega
  rw [SQ_nx]
  refine wp_seq ?_
  simp only [sFor_ap, iSeq_ap, eLst_ap, lCons_ap, lNil_ap, eC_ap, eTup_ap, eFn_ap, eUn_ap, dNeg_i, eVar_k, E1.s0, E1.s1, varK_some, Res.bind_ok, c6, seqOf_lst, Res.of_some, Res.st_ok]
  refine odd_scrs hm _ (fun d hd => ?_) E1 (fun e2 E2 => ?_)
  · simp only [List.mem_cons, List.not_mem_nil, or_false] at hd
    have sl : okT 0 (.str "later") := okT_str (by decide +kernel)
    have sh : okT 0 (.str "shift") := okT_str (by decide +kernel)
    have w1 : isStep m (.tup [.str "later", .int (-1)]) = false := by rcases hm with rfl | rfl | rfl <;> decide +kernel
    have w2 : isStep m (.tup [.str "shift", .int m, .int 1]) = false := by rcases hm with rfl | rfl | rfl <;> decide +kernel
    rcases hd with rfl | rfl | rfl | rfl | rfl
    · exact ⟨okT_non, rfl⟩
    · exact ⟨(okT_tupI (n := 1) (by intro y hy; rw [List.mem_singleton.mp hy]; exact okT_pair sl okT_int)).suc, by simp [isScript, w1]⟩
    · exact ⟨okT_lstI (by intro y hy; obtain ⟨p, hp, rfl⟩ := List.mem_map.mp hy; exact spT_okT (C.hs p hp) (by omega)) (by have := C.hl; simp; omega), rfl⟩
    · exact ⟨(okT_pair sl okT_int).le (by omega), rfl⟩
    · exact ⟨(okT_tupI (n := 1) (by intro y hy; rw [List.mem_singleton.mp hy]; exact okT_tupI (by intro y hy; simp at hy; rcases hy with rfl | rfl | rfl <;> first | exact sh | exact okT_int))).suc, by simp [isScript, w2]⟩
  rw [SQ_nx]
  simp only [sRet_ap, eC_ap, Res.st_ok, Wp_ok]
  refine ⟨?_, ?_⟩ <;> first | trivial | exact Or.inl trivial | exact .inl rfl | rfl
end
end G

end
section
namespace G
open PySem PySem.Spec L2
@[simp] theorem pow18 {s : Sto} : dPow s (.int 10) (.int 18) = some (.int 1000000000000000000) := by rfl
theorem jar_ok {ns : List Int} {s : Sto} {k : Int} (h0 : 0 ≤ k) (h1 : k < 1000) : ∃ a b : Int, f__law_jar [.scr ns, .int k] s = .ok (.lst [.int a, .int b]) s ∧ 0 ≤ a ∧ 0 ≤ b ∧ b < 2147483648 := by
  have m1 : ∀ s, dMul s (.int 107) (.int k) = some (.int (107 * k)) := fun _ => dMul_ii (by omega) (by omega)
  have m2 : ∀ s, dMul s (.int 40153) (.int k) = some (.int (40153 * k)) := fun _ => dMul_ii (by omega) (by omega)
  have go : ∀ c : Int, 0 ≤ c → ∃ a b : Int, (finF ((sRet (eLst (lCons (eIf (bVal (eOp dGe (eVar 2) (eOp dPow (eC (.int 10)) (eC (.int 18))))) (eVar 2) (eC (.int 0))) (lCons (eOp dMod (eFn gInt (lCons (eOp dAdd (eOp dAdd (eOp dMod (eFn gInt (lCons (eVar 2) (lNil))) (eC (.int 2147477857))) (eOp dMul (eC (.int 40153)) (eVar 1))) (eC (.int 709))) (lNil))) (eC (.int 2147477857))) (lNil))))) [some (.scr ns), some (.int k), some (.int c)] s)) = .ok (.lst [.int a, .int b]) s ∧ 0 ≤ a ∧ 0 ≤ b ∧ b < 2147483648 := fun c hc => by
    have b0 : 0 ≤ (c % 2147477857 + 40153 * k + 709) % 2147477857 := Int.emod_nonneg _ (by decide)
    have b1 : (c % 2147477857 + 40153 * k + 709) % 2147477857 < 2147477857 := Int.emod_lt_of_pos _ (by decide)
    by_cases hge : 1000000000000000000 ≤ c
    · exact ⟨c, _, by simp [m2, dMod_ii, hge], hc, b0, by omega⟩
    · exact ⟨0, _, by simp [m2, dMod_ii, hge], by omega, b0, by omega⟩
  by_cases hk : k < ns.length
  · obtain ⟨v, hv⟩ : ∃ v, atI ns k = some v := by
      have hr : k.toNat < ns.length := by omega
      exact ⟨ns[k.toNat], by rw [atI_nat h0 hk, List.getElem?_eq_getElem hr]⟩
    obtain ⟨a, b, e, r⟩ := go (if v < 0 then -v else v) (by split <;> omega)
    refine ⟨a, b, ?_, r⟩
    rw [← e]
    simp [f__law_jar, defF_ap, hk, hv]
  · obtain ⟨a, b, e, r⟩ := go (107 * k + 67) (by omega)
    refine ⟨a, b, ?_, r⟩
    rw [← e]
    simp [f__law_jar, defF_ap, hk, m1]
/-- a statement's returned value -/
def retV : SRes → Option D
  | .ok (.rt d) _ _ => some d
  | _ => none
theorem wp_of_ret {r : SRes} {Q : Fl → Env → Sto → Prop} {d : D} (h : retV r = some d) (q : ∀ e s, Q (.rt d) e s) : Wp r Q := by
  unfold retV at h
  split at h
  · cases h
    exact q _ _
  · cases h
theorem wD_okT {w : List Bool} (h : w.length ≤ 20) : okT 1 (wD w) := okT_tupI (by intro y hy; obtain ⟨b, _, rfl⟩ := List.mem_map.mp hy; exact okT_bl) (by simp; omega)
theorem dNe_bb {s : Sto} {b : Bool} : dNe s (.bl b) (.bl b) = some (.bl false) := dNe_refl (n := 0) okT_bl (by omega)
structure ELw (ns : List Int) (n : Nat) (env : Env) : Prop where
  len : env.length = 19
  s0 : env[0]? = some (some (.scr ns))
  s2 : env[2]? = some (some (.cel n))
theorem ELw.set {ns : List Int} {n : Nat} {env : Env} {i : Nat} {o : Option D} (h : ELw ns n env) (hi : 3 ≤ i) : ELw ns n (env.set i o) :=
  ⟨by simp [h.len], by rw [sl_ne (by omega)]; exact h.s0, by rw [sl_ne (by omega)]; exact h.s2⟩
theorem dEq_i0 {s : Sto} {r : Int} : dEq s (.int r) (.int 0) = some (.bl (r == 0)) := dEq_ii
section
variable {ns : List Int} {n : Nat} {s : Sto} {Q : Fl → Env → Sto → Prop}
theorem runM_w {m : Nat} (hm : m = 1 ∨ m = 2 ∨ m = 3) : ∀ (ss : List Sp) (x : MS), (ss.foldl (runSt m) x).w.length ≤ x.w.length + m * ss.length
  | [], x => by simp
  | sp :: ss, x => by
    have h1 := runM_w hm ss (runSt m x sp)
    have h2 : ∀ (ts : List Tst) (y : MS), (ts.foldl goM y).w.length = y.w.length + ts.length := by
      intro ts
      induction ts with
      | nil => intro y; simp
      | cons t ts ih => intro y; rw [List.foldl_cons, ih]; simp [goM]; omega
    have h3 : (runSt m x sp).w.length ≤ x.w.length + m := by
      unfold runSt
      rw [h2, shM_M]
      have : (shM sp ⟨x.M, []⟩).w = [] := by cases sp <;> rfl
      have := tests_len (sp := sp) hm
      simp
      omega
    rw [List.foldl_cons, List.length_cons, Nat.mul_add]
    omega
theorem turn_ok {env : Env} (hj : Jar n s) (E : ELw ns n env) (q : ∀ e s', ELw ns n e → Jr n s s' → Q .nx e s') : Wp (lb_law_0 env s) Q := by
  obtain ⟨r, s1, e2, r0, r1, j1⟩ := dip_ok (w := 3) hj (by omega) (by omega)
  obtain ⟨m, em⟩ : ∃ m : Nat, 1 + r = (m : Int) := ⟨(1 + r).toNat, by omega⟩
  have hm : m = 1 ∨ m = 2 ∨ m = 3 := by omega
  obtain ⟨gl, s2, e3, l2, o2, j2⟩ := book_ok (m := (m : Int)) (k := 4) j1.jar (by omega) (by omega)
  obtain ⟨gs, rfl, hgs⟩ := isGapDs o2
  obtain ⟨st, s3, e4, l3, o3, j3⟩ := steps_ok (m := (m : Int)) (k := 5) j2.jar (by omega) (by omega)
  obtain ⟨ss, rfl, hss⟩ := isStepDs o3
  obtain ⟨M0, s4, e5, hM0, hR0, j4⟩ := moms_ok (m := m) j3.jar hm
  obtain ⟨r5, s5, e6, r50, r51, j5⟩ := dip_ok (w := 4) j4.jar (by omega) (by omega)
  have C : Case m gs ss := ⟨hm, by simp at l2; omega, hgs, by simp at l3; omega, hss⟩
  have C0 : Case m [] ss := ⟨hm, by simp, by simp, C.hl, hss⟩
  have es : D.tup (ss.map spT) = scrD ss := rfl
  have eb : D.tup [.int (m : Int), .tup (gs.map gpD)] = bookD m gs := rfl
  rw [es] at e4
  rw [eb] at e3
  have j15 := (((j1.trans j2).trans j3).trans j4).trans j5
  unfold lb_law_0
  refine wp_seq ?_
  simp only [sSet_ap, eOp_ap, eC_ap, eCall_ap, lCons_ap, lNil_ap, eVar_k, E.s2, varK_some, Res.bind_ok, e2, dAdd_ii, em, Res.of_some, Res.st_ok, Wp_ok, SQ_nx]
  have E1 := E.set (i := 4) (o := some (.int m)) (by omega)
  have v4 : (env.set 4 (some (.int m)))[4]? = some (some (.int m)) := sl_eq (by rw [E.len]; omega)
  generalize env.set 4 (some (.int m)) = env1 at *
  refine wp_seq ?_
  simp only [sPar_ap, lCons_ap, lNil_ap, eOp_ap, eCall_ap, eVar_k, eC_ap, E1.s2, v4, varK_some, Res.bind_ok, e3, book1, Res.of_some, e4, Res.st_ok, setsE_cons, setsE_nil, Wp_ok, SQ_nx]
  have E2 := (E1.set (i := 5) (o := some (.tup (gs.map gpD))) (by omega)).set (i := 6) (o := some (scrD ss)) (by omega)
  have v42 : ((env1.set 5 (some (.tup (gs.map gpD)))).set 6 (some (scrD ss)))[4]? = some (some (.int m)) := by rw [sl_ne (by omega), sl_ne (by omega)]; exact v4
  have v52 : ((env1.set 5 (some (.tup (gs.map gpD)))).set 6 (some (scrD ss)))[5]? = some (some (.tup (gs.map gpD))) := by rw [sl_ne (by omega)]; exact sl_eq (by rw [E1.len]; omega)
  have v62 : ((env1.set 5 (some (.tup (gs.map gpD)))).set 6 (some (scrD ss)))[6]? = some (some (scrD ss)) := sl_eq (by simp [E1.len])
  generalize (env1.set 5 (some (.tup (gs.map gpD)))).set 6 (some (scrD ss)) = env2 at *
  refine wp_seq ?_
  simp only [sSet_ap, eCall_ap, lCons_ap, lNil_ap, eVar_k, E2.s2, v42, varK_some, Res.bind_ok, e5, Res.st_ok, Wp_ok, SQ_nx]
  have E3 := E2.set (i := 7) (o := some (.tup (M0.map mD))) (by omega)
  have v43 : (env2.set 7 (some (.tup (M0.map mD))))[4]? = some (some (.int m)) := by rw [sl_ne (by omega)]; exact v42
  have v53 : (env2.set 7 (some (.tup (M0.map mD))))[5]? = some (some (.tup (gs.map gpD))) := by rw [sl_ne (by omega)]; exact v52
  have v63 : (env2.set 7 (some (.tup (M0.map mD))))[6]? = some (some (scrD ss)) := by rw [sl_ne (by omega)]; exact v62
  have v73 : (env2.set 7 (some (.tup (M0.map mD))))[7]? = some (some (.tup (M0.map mD))) := sl_eq (by rw [E2.len]; omega)
  generalize env2.set 7 (some (.tup (M0.map mD))) = env3 at *
  -- what comes behind, for the moments as they are then
  have go : ∀ (M : List Mo) (e : Env), M.length = 2 * m → (∀ p ∈ M, MoR p) → ELw ns n e → e[4]? = some (some (.int m)) → e[5]? = some (some (.tup (gs.map gpD))) → e[6]? = some (some (scrD ss)) → e[7]? = some (some (.tup (M.map mD))) →
      Wp ((sSeq (sAsg (gtTup [gtName 8, gtName 9]) (eCall f__law_run (lCons (eVar 4) (lCons (eVar 6) (lCons (eVar 7) (lNil)))))) (sSeq (sSet 10 (eTup (lCons (eVar 4) (lCons (eVar 5) (lNil))))) (sSeq (sIf (bOr (bVal (eOp dNe (eCall f_behind (lCons (eVar 10) (lCons (eVar 6) (lCons (eVar 7) (lNil))))) (eVar 8))) (bVal (eOp dNe (eCall f_word_of (lCons (eVar 10) (lCons (eVar 6) (lCons (eVar 7) (lNil))))) (eVar 9)))) (sRet (eC (.bl false))) (sNx)) (sSeq (sSet 11 (eCall f_keeps (lCons (eTup (lCons (eVar 4) (lCons (eVar 5) (lNil)))) (lCons (eVar 7) (lNil))))) (sSeq (sIf (bOr (bVal (eOp dNe (eVar 11) (eCall f__law_keeps (lCons (eVar 5) (lCons (eVar 7) (lNil)))))) (bNot (bVal (eFn gIsi (lCons (eVar 11) (lCons (eC (.ty "bool")) (lNil))))))) (sRet (eC (.bl false))) (sNx)) (sIf (bNot (bVal (eCall f__law_refused (lCons (eVar 4) (lCons (eVar 6) (lCons (eVar 7) (lNil))))))) (sRet (eC (.bl false))) (sNx))))))) e s5) Q := by
    intro M e hM hR E4 v4 v5 v6 v7
    obtain ⟨lr, ok⟩ := law_run_ok (s := s5) (ss := ss) hm (by have := C.hl; omega) hM (fun p hp => (hR p hp).ok)
    have bo := behind_ok (s := s5) C hM hR
    have ko := keeps_ok (s := s5) C hM hR
    have lk := law_keeps_ok (s := s5) (m := m) (gs := gs) (M := M) hM (fun p hp => (hR p hp).ok) C.hgs
    have ro := refused_ok (s := s5) (M := M) C0 hM
    have t1 : okT 2 (.tup ((runM m ss M).M.map mD)) := msT (by have := ok.ml; omega)
    have hw : (runM m ss M).w.length ≤ 20 := by
      have := runM_w hm ss ⟨M, []⟩
      have h2 := C.hl
      have h3 : m * ss.length ≤ 3 * 5 := Nat.mul_le_mul (by omega) h2
      unfold runM
      simp at this
      omega
    have t2 : okT 1 (wD (runM m ss M).w) := wD_okT hw
    have d1 : ∀ s, dNe s (.tup ((runM m ss M).M.map mD)) (.tup ((runM m ss M).M.map mD)) = some (.bl false) := fun s => dNe_refl t1 (by omega)
    have d2 : ∀ s, dNe s (wD (runM m ss M).w) (wD (runM m ss M).w) = some (.bl false) := fun s => dNe_refl t2 (by omega)
    refine wp_seq ?_
    simp only [sAsg_ap, eCall_ap, lCons_ap, lNil_ap, eVar_k, v4, v6, v7, varK_some, Res.bind_ok, lr, Res.st_ok, gtTup_ap, gtTups_cons, gtTups_nil, gtName_ap, Option.bind_some, asgK_some, Wp_ok, SQ_nx]
    have E5 := (E4.set (i := 8) (o := some (.tup ((runM m ss M).M.map mD))) (by omega)).set (i := 9) (o := some (wD (runM m ss M).w)) (by omega)
    have w4 : ((e.set 8 (some (.tup ((runM m ss M).M.map mD)))).set 9 (some (wD (runM m ss M).w)))[4]? = some (some (.int m)) := by rw [sl_ne (by omega), sl_ne (by omega)]; exact v4
    have w5 : ((e.set 8 (some (.tup ((runM m ss M).M.map mD)))).set 9 (some (wD (runM m ss M).w)))[5]? = some (some (.tup (gs.map gpD))) := by rw [sl_ne (by omega), sl_ne (by omega)]; exact v5
    have w6 : ((e.set 8 (some (.tup ((runM m ss M).M.map mD)))).set 9 (some (wD (runM m ss M).w)))[6]? = some (some (scrD ss)) := by rw [sl_ne (by omega), sl_ne (by omega)]; exact v6
    have w7 : ((e.set 8 (some (.tup ((runM m ss M).M.map mD)))).set 9 (some (wD (runM m ss M).w)))[7]? = some (some (.tup (M.map mD))) := by rw [sl_ne (by omega), sl_ne (by omega)]; exact v7
    have w8 : ((e.set 8 (some (.tup ((runM m ss M).M.map mD)))).set 9 (some (wD (runM m ss M).w)))[8]? = some (some (.tup ((runM m ss M).M.map mD))) := by rw [sl_ne (by omega)]; exact sl_eq (by rw [E4.len]; omega)
    have w9 : ((e.set 8 (some (.tup ((runM m ss M).M.map mD)))).set 9 (some (wD (runM m ss M).w)))[9]? = some (some (wD (runM m ss M).w)) := sl_eq (by simp [E4.len])
    generalize (e.set 8 (some (.tup ((runM m ss M).M.map mD)))).set 9 (some (wD (runM m ss M).w)) = e5 at *
    refine wp_seq ?_
    simp only [sSet_ap, eTup_ap, lCons_ap, lNil_ap, eVar_k, w4, w5, varK_some, Res.bind_ok, Res.st_ok, eb, Wp_ok, SQ_nx]
    have E6 := E5.set (i := 10) (o := some (bookD m gs)) (by omega)
    have x4 : (e5.set 10 (some (bookD m gs)))[4]? = some (some (.int m)) := by rw [sl_ne (by omega)]; exact w4
    have x5 : (e5.set 10 (some (bookD m gs)))[5]? = some (some (.tup (gs.map gpD))) := by rw [sl_ne (by omega)]; exact w5
    have x6 : (e5.set 10 (some (bookD m gs)))[6]? = some (some (scrD ss)) := by rw [sl_ne (by omega)]; exact w6
    have x7 : (e5.set 10 (some (bookD m gs)))[7]? = some (some (.tup (M.map mD))) := by rw [sl_ne (by omega)]; exact w7
    have x8 : (e5.set 10 (some (bookD m gs)))[8]? = some (some (.tup ((runM m ss M).M.map mD))) := by rw [sl_ne (by omega)]; exact w8
    have x9 : (e5.set 10 (some (bookD m gs)))[9]? = some (some (wD (runM m ss M).w)) := by rw [sl_ne (by omega)]; exact w9
    have x10 : (e5.set 10 (some (bookD m gs)))[10]? = some (some (bookD m gs)) := sl_eq (by rw [E5.len]; omega)
    generalize e5.set 10 (some (bookD m gs)) = e6 at *
    refine wp_seq ?_
    simp only [sIf_ap, bOr_ap, bVal_ap, eOp_ap, eCall_ap, lCons_ap, lNil_ap, eVar_k, x6, x7, x8, x9, x10, varK_some, Res.bind_ok, bo.1, bo.2, d1, d2, asB_bl, Res.of_some, Bool.false_eq_true, if_false, sNx_ap, Res.st_ok, Wp_ok, SQ_nx]
    refine wp_seq ?_
    simp only [sSet_ap, eCall_ap, eTup_ap, lCons_ap, lNil_ap, eVar_k, x4, x5, x7, varK_some, Res.bind_ok, eb, ko, Res.st_ok, Wp_ok, SQ_nx]
    have E7 := E6.set (i := 11) (o := some (.bl (gs.all (keepG M)))) (by omega)
    have y4 : (e6.set 11 (some (.bl (gs.all (keepG M)))))[4]? = some (some (.int m)) := by rw [sl_ne (by omega)]; exact x4
    have y5 : (e6.set 11 (some (.bl (gs.all (keepG M)))))[5]? = some (some (.tup (gs.map gpD))) := by rw [sl_ne (by omega)]; exact x5
    have y6 : (e6.set 11 (some (.bl (gs.all (keepG M)))))[6]? = some (some (scrD ss)) := by rw [sl_ne (by omega)]; exact x6
    have y7 : (e6.set 11 (some (.bl (gs.all (keepG M)))))[7]? = some (some (.tup (M.map mD))) := by rw [sl_ne (by omega)]; exact x7
    have y11 : (e6.set 11 (some (.bl (gs.all (keepG M)))))[11]? = some (some (.bl (gs.all (keepG M)))) := sl_eq (by rw [E6.len]; omega)
    generalize e6.set 11 (some (.bl (gs.all (keepG M)))) = e7 at *
    have isb : ∀ s b, gIsi s [.bl b, .ty "bool"] = some (.bl true) := fun _ _ => rfl
    refine wp_seq ?_
    simp only [sIf_ap, bOr_ap, bNot_ap, bVal_ap, eOp_ap, eFn_ap, eC_ap, eCall_ap, lCons_ap, lNil_ap, eVar_k, y5, y7, y11, varK_some, Res.bind_ok, lk, dNe_bb, isb, asB_bl, Res.of_some, Bool.false_eq_true, if_false, Bool.not_true, sNx_ap, Res.st_ok, Wp_ok, SQ_nx]
    simp only [sIf_ap, bNot_ap, bVal_ap, eCall_ap, lCons_ap, lNil_ap, eVar_k, y4, y6, y7, varK_some, Res.bind_ok, ro, asB_bl, Res.of_some, Bool.not_true, Bool.false_eq_true, if_false, sNx_ap, Res.st_ok, Wp_ok]
    exact q _ _ E7 j15
  refine wp_seq ?_
  simp only [sIf_ap, bVal_ap, eOp_ap, eCall_ap, lCons_ap, lNil_ap, eC_ap, eVar_k, E3.s2, varK_some, Res.bind_ok, e6, dEq_i0, asB_bl, Res.of_some, Res.st_ok]
  by_cases h0 : r5 = 0
  · have hb : (r5 == 0) = true := by simp [h0]
    have rv : dRev s5 (.tup (M0.map mD)) = some (.tup (M0.reverse.map mD)) := by rw [dRev_tup, List.map_reverse]
    simp only [hb, if_true, sSet_ap, eUn_ap, eVar_k, v73, varK_some, Res.bind_ok, rv, Res.of_some, Res.st_ok, Wp_ok, SQ_nx]
    exact go M0.reverse _ (by simp [hM0]) (fun p hp => hR0 p (List.mem_reverse.mp hp)) (E3.set (by omega)) (by rw [sl_ne (by omega)]; exact v43) (by rw [sl_ne (by omega)]; exact v53) (by rw [sl_ne (by omega)]; exact v63) (sl_eq (by rw [E3.len]; omega))
  · have hb : (r5 == 0) = false := by simp [h0]
    simp only [hb, Bool.false_eq_true, if_false, sNx_ap, Wp_ok, SQ_nx]
    exact go M0 _ hM0 hR0 E3 v43 v53 v63 v73
theorem turns_in : ∀ (ks : List D) {env : Env} {s : Sto}, Jar n s → ELw ns n env → (∀ e s', ELw ns n e → Jr n s s' → Q .nx e s') → Wp (forL (.nm 3) lb_law_0 ks env s) Q
  | [], env, s, hj, E, q => q env s E (Jr.refl hj)
  | k :: ks, env, s, hj, E, q => by
    refine forW bind_nm ?_
    refine turn_ok hj (E.set (by omega)) (fun e s' E' j => ?_)
    rw [LQ_nx]
    exact turns_in ks j.jar E' (fun e2 s2 E2 j2 => q e2 s2 E2 (j.trans j2))
end
theorem turns {ns : List Int} {Q : Fl → Env → Sto → Prop} : ∀ (ks : List Nat) {env : Env} {s : Sto}, (∀ k ∈ ks, k < 1000) → env.length = 19 → env[0]? = some (some (.scr ns)) → (∀ e s', e.length = 19 → e[0]? = some (some (.scr ns)) → Q .nx e s') → Wp (forL (.nm 1) lb_law_1 (ks.map fun (k : Nat) => .int k) env s) Q
  | [], env, s, _, hl, v0, q => q env s hl v0
  | k :: ks, env, s, hk, hl, v0, q => by
    rw [List.map_cons]
    refine forW bind_nm ?_
    have hk1 := hk k (by simp)
    obtain ⟨a, b, e1, ha, hb, hb2⟩ := jar_ok (ns := ns) (s := s) (k := (k : Int)) (by omega) (by omega)
    have hj : Jar s.cel.length (newCel s [.int a, .int b]) := ⟨a, b, newCel_new, ha, hb, hb2⟩
    have hp : pureL [D.int a, D.int b] = true := rfl
    have w0 : (env.set 1 (some (.int (k : Int))))[0]? = some (some (.scr ns)) := by rw [sl_ne (by omega)]; exact v0
    have w1 : (env.set 1 (some (.int (k : Int))))[1]? = some (some (.int (k : Int))) := sl_eq (by omega)
    have wl : (env.set 1 (some (.int (k : Int)))).length = 19 := by simp [hl]
    generalize env.set 1 (some (.int (k : Int))) = env1 at *
    unfold lb_law_1
    refine wp_seq ?_
    simp only [sCel_ap, eCall_ap, lCons_ap, lNil_ap, eVar_k, w0, w1, varK_some, Res.bind_ok, e1, Res.st_ok, celK_lst, hp, if_true, Wp_ok, SQ_nx]
    have r2 : gR1 [.int 5] = some (rngD 0 5) := rfl
    simp only [sFor_ap, iOf_ap, lCons_ap, lNil_ap, eC_ap, Res.bind_ok, r2, Res.of_some, Res.st_ok]
    refine turns_in (ns := ns) (n := s.cel.length) (rngD 0 5) hj ⟨by simp [wl], by rw [sl_ne (by omega)]; exact w0, sl_eq (by omega)⟩ (fun e s' E' _ => ?_)
    rw [LQ_nx]
    exact turns ks (fun x hx => hk x (by simp [hx])) E'.len E'.s0 q
theorem env19 {e : Env} {d : D} (h : e.length = 19) (h0 : e[0]? = some (some d)) : ∃ a1 a2 a3 a4 a5 a6 a7 a8 a9 a10 a11 a12 a13 a14 a15 a16 a17 a18 : Option D, e = [some d, a1, a2, a3, a4, a5, a6, a7, a8, a9, a10, a11, a12, a13, a14, a15, a16, a17, a18] := by
  rcases e with _ | ⟨b0, _ | ⟨b1, _ | ⟨b2, _ | ⟨b3, _ | ⟨b4, _ | ⟨b5, _ | ⟨b6, _ | ⟨b7, _ | ⟨b8, _ | ⟨b9, _ | ⟨b10, _ | ⟨b11, _ | ⟨b12, _ | ⟨b13, _ | ⟨b14, _ | ⟨b15, _ | ⟨b16, _ | ⟨b17, _ | ⟨b18, _ | ⟨b19, r⟩⟩⟩⟩⟩⟩⟩⟩⟩⟩⟩⟩⟩⟩⟩⟩⟩⟩⟩⟩ <;> simp at h
  simp at h0
  subst h0
  exact ⟨_, _, _, _, _, _, _, _, _, _, _, _, _, _, _, _, _, _, rfl⟩
def tailL : SM := sSeq (sAsg (gtTup [gtName 12, gtName 13]) (eTup (lCons (eTup (lCons (eTup (lCons (eC (.int 0)) (lCons (eC (.int 1)) (lNil)))) (lCons (eTup (lCons (eC (.int 5)) (lCons (eC (.int 1)) (lNil)))) (lCons (eTup (lCons (eC (.int 6)) (lCons (eC (.int 1)) (lNil)))) (lCons (eTup (lCons (eC (.int 7)) (lCons (eC (.int 1)) (lNil)))) (lNil)))))) (lCons (eTup (lCons (eTup (lCons (eC (.int 0)) (lCons (eC (.int 1)) (lNil)))) (lCons (eTup (lCons (eC (.int 2)) (lCons (eC (.int 1)) (lNil)))) (lCons (eTup (lCons (eC (.int 9)) (lCons (eC (.int 1)) (lNil)))) (lCons (eTup (lCons (eC (.int 12)) (lCons (eC (.int 1)) (lNil)))) (lNil)))))) (lNil))))) (sSeq (sAsg (gtTup [gtName 14, gtName 15]) (eTup (lCons (eTup (lCons (eC (.int 2)) (lCons (eTup (lCons (eTup (lCons (eC (.int 0)) (lCons (eC (.int 1)) (lCons (eC (.int 2)) (lNil))))) (lCons (eTup (lCons (eC (.int 1)) (lCons (eC (.int 2)) (lCons (eC (.int 1)) (lNil))))) (lCons (eTup (lCons (eC (.int 2)) (lCons (eC (.int 3)) (lCons (eC (.int 2)) (lNil))))) (lNil))))) (lNil)))) (lCons (eTup (lCons (eTup (lCons (eC (.str "later")) (lCons (eC (.int 3)) (lNil)))) (lNil))) (lNil))))) (sSeq (sSet 11 (eLst (lCons (eCall f_behind (lCons (eVar 14) (lCons (eVar 15) (lCons (eVar 12) (lNil))))) (lCons (eCall f_behind (lCons (eVar 14) (lCons (eTup (lCons (eTup (lCons (eC (.str "earlier")) (lCons (eC (.int 3)) (lNil)))) (lNil))) (lCons (eVar 12) (lNil))))) (lCons (eCall f_behind (lCons (eVar 14) (lCons (eTup (lCons (eTup (lCons (eC (.str "longer")) (lCons (eC (.int 4)) (lNil)))) (lNil))) (lCons (eVar 12) (lNil))))) (lNil)))))) (sSeq (sIf (bVal (eOp dNe (eLc [16, 17] (.tp [(.nm 16), (.nm 17)]) (iSeq (eFn gLstZip (lCons (eVar 11) (lCons (eTup (lCons (eC (.int 2)) (lCons (eC (.int 1)) (lCons (eC (.int 3)) (lNil))))) (lNil))))) (bYes) (eOp gIx (eVar 16) (eVar 17))) (eLst (lCons (eTup (lCons (eC (.int 8)) (lCons (eC (.int 1)) (lNil)))) (lCons (eTup (lCons (eC (.int 3)) (lCons (eC (.int 1)) (lNil)))) (lCons (eTup (lCons (eC (.int 10)) (lCons (eC (.int 1)) (lNil)))) (lNil))))))) (sRet (eC (.bl false))) (sNx)) (sSeq (sSet 6 (eTup (lCons (eTup (lCons (eC (.str "shift")) (lCons (eC (.int 1)) (lCons (eC (.int 5)) (lNil))))) (lCons (eTup (lCons (eC (.str "later")) (lCons (eC (.int 2)) (lNil)))) (lCons (eTup (lCons (eC (.str "longer")) (lCons (eC (.int 1)) (lNil)))) (lNil)))))) (sSeq (sIf (bOr (bVal (eOp dNe (eCall f_behind (lCons (eVar 14) (lCons (eVar 6) (lCons (eVar 12) (lNil))))) (eTup (lCons (eTup (lCons (eC (.int 0)) (lCons (eC (.int 1)) (lNil)))) (lCons (eTup (lCons (eC (.int 5)) (lCons (eC (.int 1)) (lNil)))) (lCons (eTup (lCons (eC (.int 11)) (lCons (eC (.int 1)) (lNil)))) (lCons (eTup (lCons (eC (.int 12)) (lCons (eC (.int 1)) (lNil)))) (lNil)))))))) (bVal (eOp dNe (eCall f_word_of (lCons (eVar 14) (lCons (eVar 6) (lCons (eVar 12) (lNil))))) (eOp dMul (eTup (lCons (eC (.bl false)) (lNil))) (eC (.int 3)))))) (sRet (eC (.bl false))) (sNx)) (sSeq (sIf (bOr (bVal (eOp dNe (eCall f_behind (lCons (eVar 14) (lCons (eTup (lCons (eTup (lCons (eC (.str "shorter")) (lCons (eC (.int 2)) (lNil)))) (lNil))) (lCons (eVar 12) (lNil))))) (eTup (lCons (eTup (lCons (eC (.int 0)) (lCons (eC (.int 1)) (lNil)))) (lCons (eTup (lCons (eC (.int 2)) (lCons (eC (.int 1)) (lNil)))) (lCons (eTup (lCons (eC (.int 6)) (lCons (eC (.int 1)) (lNil)))) (lCons (eTup (lCons (eC (.int 7)) (lCons (eC (.int 1)) (lNil)))) (lNil)))))))) (bVal (eCall f_keeps (lCons (eVar 14) (lCons (eVar 12) (lNil)))))) (sRet (eC (.bl false))) (sNx)) (sSeq (sSet 18 (eTup (lCons (eTup (lCons (eC (.int 0)) (lCons (eC (.int 1)) (lNil)))) (lCons (eTup (lCons (eC (.int 4)) (lCons (eC (.int 1)) (lNil)))) (lCons (eTup (lCons (eC (.int 1)) (lCons (eC (.int 1)) (lNil)))) (lCons (eTup (lCons (eC (.int 2)) (lCons (eC (.int 1)) (lNil)))) (lCons (eTup (lCons (eC (.int 0)) (lCons (eC (.int 1)) (lNil)))) (lCons (eTup (lCons (eC (.int 9)) (lCons (eC (.int 2)) (lNil)))) (lNil))))))))) (sSeq (sIf (bVal (eOp dNe (eCall f_behind (lCons (eTup (lCons (eC (.int 3)) (lCons (eTup (lNil)) (lNil)))) (lCons (eTup (lCons (eTup (lCons (eC (.str "later")) (lCons (eC (.int 1)) (lNil)))) (lNil))) (lCons (eVar 18) (lNil))))) (eTup (lCons (eTup (lCons (eC (.int 0)) (lCons (eC (.int 1)) (lNil)))) (lCons (eTup (lCons (eC (.int 4)) (lCons (eC (.int 1)) (lNil)))) (lCons (eTup (lCons (eC (.int 5)) (lCons (eC (.int 1)) (lNil)))) (lCons (eTup (lCons (eC (.int 2)) (lCons (eC (.int 1)) (lNil)))) (lCons (eTup (lCons (eC (.int 3)) (lCons (eC (.int 1)) (lNil)))) (lCons (eTup (lCons (eC (.int 9)) (lCons (eC (.int 2)) (lNil)))) (lNil)))))))))) (sRet (eC (.bl false))) (sNx)) (sRet (eAnd (eOp dEq (eCall f_word_of (lCons (eTup (lCons (eC (.int 3)) (lCons (eTup (lNil)) (lNil)))) (lCons (eTup (lCons (eTup (lCons (eC (.str "later")) (lCons (eC (.int 1)) (lNil)))) (lNil))) (lCons (eVar 18) (lNil))))) (eTup (lCons (eC (.bl true)) (lCons (eC (.bl true)) (lNil))))) (eOp dIsB (eCall f_keeps (lCons (eVar 14) (lCons (eVar 13) (lNil)))) (eC (.bl true)))))))))))))
theorem tail_ok (ns : List Int) (a1 a2 a3 a4 a5 a6 a7 a8 a9 a10 a11 a12 a13 a14 a15 a16 a17 a18 : Option D) (s : Sto) : retV (tailL [some (.scr ns), a1, a2, a3, a4, a5, a6, a7, a8, a9, a10, a11, a12, a13, a14, a15, a16, a17, a18] s) = some (.bl true) := by kernel_rfl
theorem pure_law (ns : List Int) (h : ns.length ≤ 63) : ∃ s, f_law [.scr ns] {} = .ok (.bl true) s := by
  have key : ∃ d s', f_law [.scr ns] {} = .ok d s' ∧ d = .bl true := by
    unfold f_law
    refine of_wpC ?_
    have st : startE 19 [.scr ns] = [some (.scr ns), none, none, none, none, none, none, none, none, none, none, none, none, none, none, none, none, none, none] := rfl
    rw [st]
    obtain ⟨m, hm⟩ : ∃ m : Nat, (if (if ((ns.length : Int) + 4 < 16) then (ns.length : Int) + 4 else 16) > 5 then (if ((ns.length : Int) + 4 < 16) then (ns.length : Int) + 4 else 16) else 5) = (m : Int) := ⟨(if (if ((ns.length : Int) + 4 < 16) then (ns.length : Int) + 4 else 16) > 5 then (if ((ns.length : Int) + 4 < 16) then (ns.length : Int) + 4 else 16) else 5).toNat, by split <;> split <;> omega⟩
    have hm2 : m ≤ 16 := by split at hm <;> split at hm <;> omega
    have r2 : gR1 [.int (m : Int)] = some ((List.range m).map fun (k : Nat) => .int (k : Int)) := by
      rw [gR1_int, if_pos (by omega), Int.toNat_natCast, rngD_map]
      simp
    refine wp_seq ?_
    simp only [sFor_ap, iOf_ap, lCons_ap, eFn_ap, eC_ap, eOp_ap, eVar_0, lNil_ap, Res.bind_ok, gLen_scr, Res.of_some, dAdd_ii, gMin2_ii, gMax2_ii, hm, r2, Res.st_ok]
    refine turns (ns := ns) (List.range m) (fun k hk => by have := List.mem_range.mp hk; omega) rfl rfl (fun e s hl v0 => ?_)
    rw [SQ_nx]
    obtain ⟨a1, a2, a3, a4, a5, a6, a7, a8, a9, a10, a11, a12, a13, a14, a15, a16, a17, a18, rfl⟩ := env19 hl v0
    exact wp_of_ret (tail_ok ns a1 a2 a3 a4 a5 a6 a7 a8 a9 a10 a11 a12 a13 a14 a15 a16 a17 a18 s) fun e s => by
      show fz _ _ (.bl true) = .bl true
      exact fz_pure _ rfl
  obtain ⟨d, s', e, rfl⟩ := key
  exact ⟨s', e⟩
end G

end
section
namespace G
open PySem PySem.Spec L2
open PyProof.Rows (envOfC)
def top (i : Nat) : Stmt := PySem.Challenge.pw_cuesuntold_k02_scripts_with_told_moments.main.body.getD i (.Pass ⟨0, 0, 0, 0⟩)
def tfs : List (He.Defn × Str) := [(("_law_refused", none), "_law_refused.<locals>.<lambda>")]
instance : Tb := ⟨tabT tfs⟩
abbrev s__law_word : Stmt := top 45
theorem sc__law_word : FnScope ["call"] ["call"] (defScope s__law_word) := ⟨rfl, rfl, rfl, by decide +kernel, rfl, by decide +kernel, by decide +kernel⟩
abbrev s_f_is_from : Stmt := top 6
abbrev N_f_is_from : List Str := ["value", "low", "high"]
abbrev P_f_is_from : List Str := ["value", "low", "high"]
theorem sc_f_is_from : FnScope N_f_is_from P_f_is_from (defScope s_f_is_from) := ⟨rfl, rfl, rfl, by decide +kernel, rfl, by decide +kernel, by decide +kernel⟩
abbrev s_f_lowest : Stmt := top 7
abbrev N_f_lowest : List Str := ["top", "below", "one", "other"]
abbrev P_f_lowest : List Str := ["top", "below"]
theorem sc_f_lowest : FnScope N_f_lowest P_f_lowest (defScope s_f_lowest) := ⟨rfl, rfl, rfl, by decide +kernel, rfl, by decide +kernel, by decide +kernel⟩
abbrev s_f_plus : Stmt := top 8
abbrev N_f_plus : List Str := ["one", "other"]
abbrev P_f_plus : List Str := ["one", "other"]
theorem sc_f_plus : FnScope N_f_plus P_f_plus (defScope s_f_plus) := ⟨rfl, rfl, rfl, by decide +kernel, rfl, by decide +kernel, by decide +kernel⟩
abbrev s_f_is_less : Stmt := top 9
abbrev N_f_is_less : List Str := ["one", "other"]
abbrev P_f_is_less : List Str := ["one", "other"]
theorem sc_f_is_less : FnScope N_f_is_less P_f_is_less (defScope s_f_is_less) := ⟨rfl, rfl, rfl, by decide +kernel, rfl, by decide +kernel, by decide +kernel⟩
abbrev s_f_is_fraction : Stmt := top 10
abbrev N_f_is_fraction : List Str := ["value", "most"]
abbrev P_f_is_fraction : List Str := ["value", "most"]
theorem sc_f_is_fraction : FnScope N_f_is_fraction P_f_is_fraction (defScope s_f_is_fraction) := ⟨rfl, rfl, rfl, by decide +kernel, rfl, by decide +kernel, by decide +kernel⟩
abbrev s_f_is_gap : Stmt := top 11
abbrev N_f_is_gap : List Str := ["cues", "value", "part"]
abbrev P_f_is_gap : List Str := ["cues", "value"]
theorem sc_f_is_gap : FnScope N_f_is_gap P_f_is_gap (defScope s_f_is_gap) := ⟨rfl, rfl, rfl, by decide +kernel, rfl, by decide +kernel, by decide +kernel⟩
abbrev s_f_is_good_book : Stmt := top 12
abbrev N_f_is_good_book : List Str := ["value", "fact"]
abbrev P_f_is_good_book : List Str := ["value"]
theorem sc_f_is_good_book : FnScope N_f_is_good_book P_f_is_good_book (defScope s_f_is_good_book) := ⟨rfl, rfl, rfl, by decide +kernel, rfl, by decide +kernel, by decide +kernel⟩
abbrev s_f_is_step : Stmt := top 13
abbrev N_f_is_step : List Str := ["cues", "value"]
abbrev P_f_is_step : List Str := ["cues", "value"]
theorem sc_f_is_step : FnScope N_f_is_step P_f_is_step (defScope s_f_is_step) := ⟨rfl, rfl, rfl, by decide +kernel, rfl, by decide +kernel, by decide +kernel⟩
abbrev s_f_is_good_script : Stmt := top 14
abbrev N_f_is_good_script : List Str := ["cues", "value", "step"]
abbrev P_f_is_good_script : List Str := ["cues", "value"]
theorem sc_f_is_good_script : FnScope N_f_is_good_script P_f_is_good_script (defScope s_f_is_good_script) := ⟨rfl, rfl, rfl, by decide +kernel, rfl, by decide +kernel, by decide +kernel⟩
abbrev s_f_are_good_moments : Stmt := top 15
abbrev N_f_are_good_moments : List Str := ["cues", "value", "part"]
abbrev P_f_are_good_moments : List Str := ["cues", "value"]
theorem sc_f_are_good_moments : FnScope N_f_are_good_moments P_f_are_good_moments (defScope s_f_are_good_moments) := ⟨rfl, rfl, rfl, by decide +kernel, rfl, by decide +kernel, by decide +kernel⟩
abbrev s_f_need_book : Stmt := top 16
abbrev N_f_need_book : List Str := ["value"]
abbrev P_f_need_book : List Str := ["value"]
theorem sc_f_need_book : FnScope N_f_need_book P_f_need_book (defScope s_f_need_book) := ⟨rfl, rfl, rfl, by decide +kernel, rfl, by decide +kernel, by decide +kernel⟩
abbrev s_f_need_script : Stmt := top 17
abbrev N_f_need_script : List Str := ["cues", "value"]
abbrev P_f_need_script : List Str := ["cues", "value"]
theorem sc_f_need_script : FnScope N_f_need_script P_f_need_script (defScope s_f_need_script) := ⟨rfl, rfl, rfl, by decide +kernel, rfl, by decide +kernel, by decide +kernel⟩
abbrev s_f_need_moments : Stmt := top 18
abbrev N_f_need_moments : List Str := ["cues", "value"]
abbrev P_f_need_moments : List Str := ["cues", "value"]
theorem sc_f_need_moments : FnScope N_f_need_moments P_f_need_moments (defScope s_f_need_moments) := ⟨rfl, rfl, rfl, by decide +kernel, rfl, by decide +kernel, by decide +kernel⟩
abbrev s_f_is_kept : Stmt := top 19
abbrev N_f_is_kept : List Str := ["moments", "gap"]
abbrev P_f_is_kept : List Str := ["moments", "gap"]
theorem sc_f_is_kept : FnScope N_f_is_kept P_f_is_kept (defScope s_f_is_kept) := ⟨rfl, rfl, rfl, by decide +kernel, rfl, by decide +kernel, by decide +kernel⟩
abbrev s_f_keeps : Stmt := top 20
abbrev N_f_keeps : List Str := ["book", "moments", "fact"]
abbrev P_f_keeps : List Str := ["book", "moments"]
theorem sc_f_keeps : FnScope N_f_keeps P_f_keeps (defScope s_f_keeps) := ⟨rfl, rfl, rfl, by decide +kernel, rfl, by decide +kernel, by decide +kernel⟩
abbrev s_f_tests_of : Stmt := top 22
abbrev N_f_tests_of : List Str := ["cues", "step", "word", "number", "every", "found", "cue"]
abbrev P_f_tests_of : List Str := ["cues", "step"]
theorem sc_f_tests_of : FnScope N_f_tests_of P_f_tests_of (defScope s_f_tests_of) := ⟨rfl, rfl, rfl, by decide +kernel, rfl, by decide +kernel, by decide +kernel⟩
abbrev s_f_later_by : Stmt := top 25
abbrev N_f_later_by : List Str := ["moment", "by"]
abbrev P_f_later_by : List Str := ["moment", "by"]
theorem sc_f_later_by : FnScope N_f_later_by P_f_later_by (defScope s_f_later_by) := ⟨rfl, rfl, rfl, by decide +kernel, rfl, by decide +kernel, by decide +kernel⟩
abbrev s_f_shifted : Stmt := top 23
abbrev N_f_shifted : List Str := ["values", "step", "added", "at", "one"]
abbrev P_f_shifted : List Str := ["values", "step", "added"]
theorem sc_f_shifted : FnScope N_f_shifted P_f_shifted (defScope s_f_shifted) := ⟨rfl, rfl, rfl, by decide +kernel, rfl, by decide +kernel, by decide +kernel⟩
abbrev s_f_put : Stmt := top 24
abbrev N_f_put : List Str := ["values", "at", "value"]
abbrev P_f_put : List Str := ["values", "at", "value"]
theorem sc_f_put : FnScope N_f_put P_f_put (defScope s_f_put) := ⟨rfl, rfl, rfl, by decide +kernel, rfl, by decide +kernel, by decide +kernel⟩
abbrev s_f_run_so : Stmt := top 26
abbrev N_f_run_so : List Str := ["cues", "script", "moments", "word", "step", "test", "late"]
abbrev P_f_run_so : List Str := ["cues", "script", "moments"]
theorem sc_f_run_so : FnScope N_f_run_so P_f_run_so (defScope s_f_run_so) := ⟨rfl, rfl, rfl, by decide +kernel, rfl, by decide +kernel, by decide +kernel⟩
abbrev s_f_behind : Stmt := top 27
abbrev N_f_behind : List Str := ["book", "script", "moments"]
abbrev P_f_behind : List Str := ["book", "script", "moments"]
theorem sc_f_behind : FnScope N_f_behind P_f_behind (defScope s_f_behind) := ⟨rfl, rfl, rfl, by decide +kernel, rfl, by decide +kernel, by decide +kernel⟩
abbrev s_f_word_of : Stmt := top 28
abbrev N_f_word_of : List Str := ["book", "script", "moments"]
abbrev P_f_word_of : List Str := ["book", "script", "moments"]
theorem sc_f_word_of : FnScope N_f_word_of P_f_word_of (defScope s_f_word_of) := ⟨rfl, rfl, rfl, by decide +kernel, rfl, by decide +kernel, by decide +kernel⟩
abbrev s_f__law_jar : Stmt := top 30
abbrev N_f__law_jar : List Str := ["script", "k", "cell"]
abbrev P_f__law_jar : List Str := ["script", "k"]
theorem sc_f__law_jar : FnScope N_f__law_jar P_f__law_jar (defScope s_f__law_jar) := ⟨rfl, rfl, rfl, by decide +kernel, rfl, by decide +kernel, by decide +kernel⟩
abbrev s_f__law_dip : Stmt := top 31
abbrev N_f__law_dip : List Str := ["jar", "wide", "found", "stirred"]
abbrev P_f__law_dip : List Str := ["jar", "wide"]
theorem sc_f__law_dip : FnScope N_f__law_dip P_f__law_dip (defScope s_f__law_dip) := ⟨rfl, rfl, rfl, by decide +kernel, rfl, by decide +kernel, by decide +kernel⟩
abbrev s_f__law_any : Stmt := top 32
abbrev N_f__law_any : List Str := ["jar", "things"]
abbrev P_f__law_any : List Str := ["jar", "things"]
theorem sc_f__law_any : FnScope N_f__law_any P_f__law_any (defScope s_f__law_any) := ⟨rfl, rfl, rfl, by decide +kernel, rfl, by decide +kernel, by decide +kernel⟩
abbrev s_f__law_low : Stmt := top 33
abbrev N_f__law_low : List Str := ["top", "below", "mine", "yours"]
abbrev P_f__law_low : List Str := ["top", "below"]
theorem sc_f__law_low : FnScope N_f__law_low P_f__law_low (defScope s_f__law_low) := ⟨rfl, rfl, rfl, by decide +kernel, rfl, by decide +kernel, by decide +kernel⟩
abbrev s_f__law_plus : Stmt := top 34
abbrev N_f__law_plus : List Str := ["one_so", "two_so"]
abbrev P_f__law_plus : List Str := ["one_so", "two_so"]
theorem sc_f__law_plus : FnScope N_f__law_plus P_f__law_plus (defScope s_f__law_plus) := ⟨rfl, rfl, rfl, by decide +kernel, rfl, by decide +kernel, by decide +kernel⟩
abbrev s_f__law_below : Stmt := top 35
abbrev N_f__law_below : List Str := ["one_so", "two_so"]
abbrev P_f__law_below : List Str := ["one_so", "two_so"]
theorem sc_f__law_below : FnScope N_f__law_below P_f__law_below (defScope s_f__law_below) := ⟨rfl, rfl, rfl, by decide +kernel, rfl, by decide +kernel, by decide +kernel⟩
abbrev s_f__law_moments : Stmt := top 36
abbrev N_f__law_moments : List Str := ["jar", "many", "found", "here", "below", "at"]
abbrev P_f__law_moments : List Str := ["jar", "many"]
theorem sc_f__law_moments : FnScope N_f__law_moments P_f__law_moments (defScope s_f__law_moments) := ⟨rfl, rfl, rfl, by decide +kernel, rfl, by decide +kernel, by decide +kernel⟩
abbrev s_f__law_gap : Stmt := top 37
abbrev N_f__law_gap : List Str := ["jar", "many", "told", "one_so", "two_so", "here", "by"]
abbrev P_f__law_gap : List Str := ["jar", "many", "told"]
theorem sc_f__law_gap : FnScope N_f__law_gap P_f__law_gap (defScope s_f__law_gap) := ⟨rfl, rfl, rfl, by decide +kernel, rfl, by decide +kernel, by decide +kernel⟩
abbrev s_f__law_book : Stmt := top 38
abbrev N_f__law_book : List Str := ["jar", "many", "most", "told", "turn"]
abbrev P_f__law_book : List Str := ["jar", "many", "most"]
theorem sc_f__law_book : FnScope N_f__law_book P_f__law_book (defScope s_f__law_book) := ⟨rfl, rfl, rfl, by decide +kernel, rfl, by decide +kernel, by decide +kernel⟩
abbrev s_f__law_step : Stmt := top 39
abbrev N_f__law_step : List Str := ["jar", "many", "kind"]
abbrev P_f__law_step : List Str := ["jar", "many"]
theorem sc_f__law_step : FnScope N_f__law_step P_f__law_step (defScope s_f__law_step) := ⟨rfl, rfl, rfl, by decide +kernel, rfl, by decide +kernel, by decide +kernel⟩
abbrev s_f__law_steps : Stmt := top 40
abbrev N_f__law_steps : List Str := ["jar", "many", "most", "turn"]
abbrev P_f__law_steps : List Str := ["jar", "many", "most"]
theorem sc_f__law_steps : FnScope N_f__law_steps P_f__law_steps (defScope s_f__law_steps) := ⟨rfl, rfl, rfl, by decide +kernel, rfl, by decide +kernel, by decide +kernel⟩
abbrev s_f__law_more : Stmt := top 41
abbrev N_f__law_more : List Str := ["moment", "by"]
abbrev P_f__law_more : List Str := ["moment", "by"]
theorem sc_f__law_more : FnScope N_f__law_more P_f__law_more (defScope s_f__law_more) := ⟨rfl, rfl, rfl, by decide +kernel, rfl, by decide +kernel, by decide +kernel⟩
abbrev s_f__law_test : Stmt := top 43
abbrev N_f__law_test : List Str := ["kind", "by", "many", "cue", "now", "mine", "yours"]
abbrev P_f__law_test : List Str := ["kind", "by", "many", "cue", "now"]
theorem sc_f__law_test : FnScope N_f__law_test P_f__law_test (defScope s_f__law_test) := ⟨rfl, rfl, rfl, by decide +kernel, rfl, by decide +kernel, by decide +kernel⟩
abbrev s_f__law_run : Stmt := top 42
abbrev N_f__law_run : List Str := ["many", "steps", "moments_so", "now", "word", "step_so", "kind", "by", "at", "cue", "mine", "here", "new", "late"]
abbrev P_f__law_run : List Str := ["many", "steps", "moments_so"]
theorem sc_f__law_run : FnScope N_f__law_run P_f__law_run (defScope s_f__law_run) := ⟨rfl, rfl, rfl, by decide +kernel, rfl, by decide +kernel, by decide +kernel⟩
abbrev s_f__law_keeps : Stmt := top 44
abbrev N_f__law_keeps : List Str := ["facts_so", "moments_so", "one_so", "two_so", "by"]
abbrev P_f__law_keeps : List Str := ["facts_so", "moments_so"]
theorem sc_f__law_keeps : FnScope N_f__law_keeps P_f__law_keeps (defScope s_f__law_keeps) := ⟨rfl, rfl, rfl, by decide +kernel, rfl, by decide +kernel, by decide +kernel⟩
abbrev s_f__law_refused : Stmt := top 46
abbrev N_f__law_refused : List Str := ["many", "steps", "moments_so", "odd", "call"]
abbrev P_f__law_refused : List Str := ["many", "steps", "moments_so"]
theorem sc_f__law_refused : FnScope N_f__law_refused P_f__law_refused (defScope s_f__law_refused) := ⟨rfl, rfl, rfl, by decide +kernel, rfl, by decide +kernel, by decide +kernel⟩
abbrev s_f_law : Stmt := top 47
abbrev N_f_law : List Str := ["script", "k", "jar", "turn", "many", "facts_so", "steps", "moments_so", "due", "word_so", "book_so", "found", "first", "last", "near", "late", "part", "at", "three"]
abbrev P_f_law : List Str := ["script"]
theorem sc_f_law : FnScope N_f_law P_f_law (defScope s_f_law) := ⟨rfl, rfl, rfl, by decide +kernel, rfl, by decide +kernel, by decide +kernel⟩
structure Tx (K : PySem.W.Frag) (mg : Str → Option Value) (base : Heap) : Prop where
  d_is_from : ∃ f fd, FunD K "is_from" "is_from" (defArgs s_f_is_from) (defBody s_f_is_from) (defScope s_f_is_from) [] [] f fd ∧ mg "is_from" = some (.ref f)
  d_lowest : ∃ f fd, FunD K "lowest" "lowest" (defArgs s_f_lowest) (defBody s_f_lowest) (defScope s_f_lowest) [] [] f fd ∧ mg "lowest" = some (.ref f)
  d_plus : ∃ f fd, FunD K "plus" "plus" (defArgs s_f_plus) (defBody s_f_plus) (defScope s_f_plus) [] [] f fd ∧ mg "plus" = some (.ref f)
  d_is_less : ∃ f fd, FunD K "is_less" "is_less" (defArgs s_f_is_less) (defBody s_f_is_less) (defScope s_f_is_less) [] [] f fd ∧ mg "is_less" = some (.ref f)
  d_is_fraction : ∃ f fd, FunD K "is_fraction" "is_fraction" (defArgs s_f_is_fraction) (defBody s_f_is_fraction) (defScope s_f_is_fraction) [] [] f fd ∧ mg "is_fraction" = some (.ref f)
  d_is_gap : ∃ f fd, FunD K "is_gap" "is_gap" (defArgs s_f_is_gap) (defBody s_f_is_gap) (defScope s_f_is_gap) [] [] f fd ∧ mg "is_gap" = some (.ref f)
  d_is_good_book : ∃ f fd, FunD K "is_good_book" "is_good_book" (defArgs s_f_is_good_book) (defBody s_f_is_good_book) (defScope s_f_is_good_book) [] [] f fd ∧ mg "is_good_book" = some (.ref f)
  d_is_step : ∃ f fd, FunD K "is_step" "is_step" (defArgs s_f_is_step) (defBody s_f_is_step) (defScope s_f_is_step) [] [] f fd ∧ mg "is_step" = some (.ref f)
  d_is_good_script : ∃ f fd, FunD K "is_good_script" "is_good_script" (defArgs s_f_is_good_script) (defBody s_f_is_good_script) (defScope s_f_is_good_script) [] [] f fd ∧ mg "is_good_script" = some (.ref f)
  d_are_good_moments : ∃ f fd, FunD K "are_good_moments" "are_good_moments" (defArgs s_f_are_good_moments) (defBody s_f_are_good_moments) (defScope s_f_are_good_moments) [] [] f fd ∧ mg "are_good_moments" = some (.ref f)
  d_need_book : ∃ f fd, FunD K "need_book" "need_book" (defArgs s_f_need_book) (defBody s_f_need_book) (defScope s_f_need_book) [] [] f fd ∧ mg "need_book" = some (.ref f)
  d_need_script : ∃ f fd, FunD K "need_script" "need_script" (defArgs s_f_need_script) (defBody s_f_need_script) (defScope s_f_need_script) [] [] f fd ∧ mg "need_script" = some (.ref f)
  d_need_moments : ∃ f fd, FunD K "need_moments" "need_moments" (defArgs s_f_need_moments) (defBody s_f_need_moments) (defScope s_f_need_moments) [] [] f fd ∧ mg "need_moments" = some (.ref f)
  d_is_kept : ∃ f fd, FunD K "is_kept" "is_kept" (defArgs s_f_is_kept) (defBody s_f_is_kept) (defScope s_f_is_kept) [] [] f fd ∧ mg "is_kept" = some (.ref f)
  d_keeps : ∃ f fd, FunD K "keeps" "keeps" (defArgs s_f_keeps) (defBody s_f_keeps) (defScope s_f_keeps) [] [] f fd ∧ mg "keeps" = some (.ref f)
  d_tests_of : ∃ f fd, FunD K "tests_of" "tests_of" (defArgs s_f_tests_of) (defBody s_f_tests_of) (defScope s_f_tests_of) [] [] f fd ∧ mg "tests_of" = some (.ref f)
  d_later_by : ∃ f fd, FunD K "later_by" "later_by" (defArgs s_f_later_by) (defBody s_f_later_by) (defScope s_f_later_by) [] [] f fd ∧ mg "later_by" = some (.ref f)
  d_shifted : ∃ f fd, FunD K "shifted" "shifted" (defArgs s_f_shifted) (defBody s_f_shifted) (defScope s_f_shifted) [] [] f fd ∧ mg "shifted" = some (.ref f)
  d_put : ∃ f fd, FunD K "put" "put" (defArgs s_f_put) (defBody s_f_put) (defScope s_f_put) [] [] f fd ∧ mg "put" = some (.ref f)
  d_run_so : ∃ f fd, FunD K "run_so" "run_so" (defArgs s_f_run_so) (defBody s_f_run_so) (defScope s_f_run_so) [] [] f fd ∧ mg "run_so" = some (.ref f)
  d_behind : ∃ f fd, FunD K "behind" "behind" (defArgs s_f_behind) (defBody s_f_behind) (defScope s_f_behind) [] [] f fd ∧ mg "behind" = some (.ref f)
  d_word_of : ∃ f fd, FunD K "word_of" "word_of" (defArgs s_f_word_of) (defBody s_f_word_of) (defScope s_f_word_of) [] [] f fd ∧ mg "word_of" = some (.ref f)
  d__law_jar : ∃ f fd, FunD K "_law_jar" "_law_jar" (defArgs s_f__law_jar) (defBody s_f__law_jar) (defScope s_f__law_jar) [] [] f fd ∧ mg "_law_jar" = some (.ref f)
  d__law_dip : ∃ f fd, FunD K "_law_dip" "_law_dip" (defArgs s_f__law_dip) (defBody s_f__law_dip) (defScope s_f__law_dip) [] [] f fd ∧ mg "_law_dip" = some (.ref f)
  d__law_any : ∃ f fd, FunD K "_law_any" "_law_any" (defArgs s_f__law_any) (defBody s_f__law_any) (defScope s_f__law_any) [] [] f fd ∧ mg "_law_any" = some (.ref f)
  d__law_low : ∃ f fd, FunD K "_law_low" "_law_low" (defArgs s_f__law_low) (defBody s_f__law_low) (defScope s_f__law_low) [] [] f fd ∧ mg "_law_low" = some (.ref f)
  d__law_plus : ∃ f fd, FunD K "_law_plus" "_law_plus" (defArgs s_f__law_plus) (defBody s_f__law_plus) (defScope s_f__law_plus) [] [] f fd ∧ mg "_law_plus" = some (.ref f)
  d__law_below : ∃ f fd, FunD K "_law_below" "_law_below" (defArgs s_f__law_below) (defBody s_f__law_below) (defScope s_f__law_below) [] [] f fd ∧ mg "_law_below" = some (.ref f)
  d__law_moments : ∃ f fd, FunD K "_law_moments" "_law_moments" (defArgs s_f__law_moments) (defBody s_f__law_moments) (defScope s_f__law_moments) [] [] f fd ∧ mg "_law_moments" = some (.ref f)
  d__law_gap : ∃ f fd, FunD K "_law_gap" "_law_gap" (defArgs s_f__law_gap) (defBody s_f__law_gap) (defScope s_f__law_gap) [] [] f fd ∧ mg "_law_gap" = some (.ref f)
  d__law_book : ∃ f fd, FunD K "_law_book" "_law_book" (defArgs s_f__law_book) (defBody s_f__law_book) (defScope s_f__law_book) [] [] f fd ∧ mg "_law_book" = some (.ref f)
  d__law_step : ∃ f fd, FunD K "_law_step" "_law_step" (defArgs s_f__law_step) (defBody s_f__law_step) (defScope s_f__law_step) [] [] f fd ∧ mg "_law_step" = some (.ref f)
  d__law_steps : ∃ f fd, FunD K "_law_steps" "_law_steps" (defArgs s_f__law_steps) (defBody s_f__law_steps) (defScope s_f__law_steps) [] [] f fd ∧ mg "_law_steps" = some (.ref f)
  d__law_more : ∃ f fd, FunD K "_law_more" "_law_more" (defArgs s_f__law_more) (defBody s_f__law_more) (defScope s_f__law_more) [] [] f fd ∧ mg "_law_more" = some (.ref f)
  d__law_test : ∃ f fd, FunD K "_law_test" "_law_test" (defArgs s_f__law_test) (defBody s_f__law_test) (defScope s_f__law_test) [] [] f fd ∧ mg "_law_test" = some (.ref f)
  d__law_run : ∃ f fd, FunD K "_law_run" "_law_run" (defArgs s_f__law_run) (defBody s_f__law_run) (defScope s_f__law_run) [] [] f fd ∧ mg "_law_run" = some (.ref f)
  d__law_keeps : ∃ f fd, FunD K "_law_keeps" "_law_keeps" (defArgs s_f__law_keeps) (defBody s_f__law_keeps) (defScope s_f__law_keeps) [] [] f fd ∧ mg "_law_keeps" = some (.ref f)
  d__law_refused : ∃ f fd, FunD K "_law_refused" "_law_refused" (defArgs s_f__law_refused) (defBody s_f__law_refused) (defScope s_f__law_refused) [] [] f fd ∧ mg "_law_refused" = some (.ref f)
  d_law : ∃ f fd, FunD K "law" "law" (defArgs s_f_law) (defBody s_f_law) (defScope s_f_law) [] [] f fd ∧ mg "law" = some (.ref f)
  g_is_from : mg "is_from" = some (.ref (He.ga K "is_from"))
  g_lowest : mg "lowest" = some (.ref (He.ga K "lowest"))
  g_plus : mg "plus" = some (.ref (He.ga K "plus"))
  g_is_less : mg "is_less" = some (.ref (He.ga K "is_less"))
  g_is_fraction : mg "is_fraction" = some (.ref (He.ga K "is_fraction"))
  g_is_gap : mg "is_gap" = some (.ref (He.ga K "is_gap"))
  g_is_good_book : mg "is_good_book" = some (.ref (He.ga K "is_good_book"))
  g_is_step : mg "is_step" = some (.ref (He.ga K "is_step"))
  g_is_good_script : mg "is_good_script" = some (.ref (He.ga K "is_good_script"))
  g_are_good_moments : mg "are_good_moments" = some (.ref (He.ga K "are_good_moments"))
  g_need_book : mg "need_book" = some (.ref (He.ga K "need_book"))
  g_need_script : mg "need_script" = some (.ref (He.ga K "need_script"))
  g_need_moments : mg "need_moments" = some (.ref (He.ga K "need_moments"))
  g_is_kept : mg "is_kept" = some (.ref (He.ga K "is_kept"))
  g_keeps : mg "keeps" = some (.ref (He.ga K "keeps"))
  g_tests_of : mg "tests_of" = some (.ref (He.ga K "tests_of"))
  g_later_by : mg "later_by" = some (.ref (He.ga K "later_by"))
  g_shifted : mg "shifted" = some (.ref (He.ga K "shifted"))
  g_put : mg "put" = some (.ref (He.ga K "put"))
  g_run_so : mg "run_so" = some (.ref (He.ga K "run_so"))
  g_behind : mg "behind" = some (.ref (He.ga K "behind"))
  g_word_of : mg "word_of" = some (.ref (He.ga K "word_of"))
  g__law_jar : mg "_law_jar" = some (.ref (He.ga K "_law_jar"))
  g__law_dip : mg "_law_dip" = some (.ref (He.ga K "_law_dip"))
  g__law_any : mg "_law_any" = some (.ref (He.ga K "_law_any"))
  g__law_low : mg "_law_low" = some (.ref (He.ga K "_law_low"))
  g__law_plus : mg "_law_plus" = some (.ref (He.ga K "_law_plus"))
  g__law_below : mg "_law_below" = some (.ref (He.ga K "_law_below"))
  g__law_moments : mg "_law_moments" = some (.ref (He.ga K "_law_moments"))
  g__law_gap : mg "_law_gap" = some (.ref (He.ga K "_law_gap"))
  g__law_book : mg "_law_book" = some (.ref (He.ga K "_law_book"))
  g__law_step : mg "_law_step" = some (.ref (He.ga K "_law_step"))
  g__law_steps : mg "_law_steps" = some (.ref (He.ga K "_law_steps"))
  g__law_more : mg "_law_more" = some (.ref (He.ga K "_law_more"))
  g__law_test : mg "_law_test" = some (.ref (He.ga K "_law_test"))
  g__law_run : mg "_law_run" = some (.ref (He.ga K "_law_run"))
  g__law_keeps : mg "_law_keeps" = some (.ref (He.ga K "_law_keeps"))
  g__law_refused : mg "_law_refused" = some (.ref (He.ga K "_law_refused"))
  g_law : mg "law" = some (.ref (He.ga K "law"))
  g_InvalidBook : mg "InvalidBook" = some (.ref (He.ga K "InvalidBook"))
  e_InvalidBook : PySem.W.excIn K (He.ga K "InvalidBook") He.veBase "ValueError.__new__" = true ∧ PySem.W.keepIn K (.ref (He.ga K "InvalidBook")) = true ∧ PySem.W.subIn K (.ref (He.ga K "InvalidBook")) (.type "BaseException") = some true ∧ PySem.W.typeIn K (.ref (He.ga K "InvalidBook")) = some (.type "type")
  g_InvalidMoments : mg "InvalidMoments" = some (.ref (He.ga K "InvalidMoments"))
  e_InvalidMoments : PySem.W.excIn K (He.ga K "InvalidMoments") He.veBase "ValueError.__new__" = true ∧ PySem.W.keepIn K (.ref (He.ga K "InvalidMoments")) = true ∧ PySem.W.subIn K (.ref (He.ga K "InvalidMoments")) (.type "BaseException") = some true ∧ PySem.W.typeIn K (.ref (He.ga K "InvalidMoments")) = some (.type "type")
  g_InvalidScript : mg "InvalidScript" = some (.ref (He.ga K "InvalidScript"))
  e_InvalidScript : PySem.W.excIn K (He.ga K "InvalidScript") He.veBase "ValueError.__new__" = true ∧ PySem.W.keepIn K (.ref (He.ga K "InvalidScript")) = true ∧ PySem.W.subIn K (.ref (He.ga K "InvalidScript")) (.type "BaseException") = some true ∧ PySem.W.typeIn K (.ref (He.ga K "InvalidScript")) = some (.type "type")
  d__law_word : ∃ f fd, FunD K "_law_word" "_law_word" (defArgs s__law_word) (defBody s__law_word) (defScope s__law_word) [] [] f fd ∧ mg "_law_word" = some (.ref f)
  c__law_word : Clss K mg kn__law_word hs__law_word (hs__law_word.map fun p => (He.ga K p.1, p.2))
  l__law_refused : ∃ f fd c P, FunD K "_law_refused" "_law_refused" (defArgs s_f__law_refused) (defBody s_f__law_refused) (defScope s_f__law_refused) [] [] f fd ∧ mg "_law_refused" = some (.ref f) ∧ LamAt K mg base "_law_refused.<locals>.<lambda>" fd.code c P
  b_abs : mg "abs" = none
  b_all : mg "all" = none
  b_bool : mg "bool" = none
  b_enumerate : mg "enumerate" = none
  b_int : mg "int" = none
  b_isinstance : mg "isinstance" = none
  b_len : mg "len" = none
  b_list : mg "list" = none
  b_max : mg "max" = none
  b_min : mg "min" = none
  b_range : mg "range" = none
  b_str : mg "str" = none
  b_tuple : mg "tuple" = none
  b_zip : mg "zip" = none
theorem giv__law_word {X : Cx} {q : Str} {g : Addr} {cdv : Value} (T : Tx X.K X.mg X.base) : LamX.GivesTo X ["call"] "_law_word" (defScope s__law_word) g cdv (defBody s__law_word) "call" q (TTx X.K (hs__law_word.map fun p => (He.ga X.K p.1, p.2)) (some "none")) :=
  tells_fin (fun s H => .cons ⟨rfl, rfl, .inl T.g_InvalidScript⟩ (fun _ _ _ _ _ _ _ => pss_one (ps_ret pe_str)) (.cons ⟨rfl, rfl, .inl T.g_InvalidMoments⟩ (fun _ _ _ _ _ _ _ => pss_one (ps_ret pe_str)) (.nil))) (fun f => rfl)
section
variable {P : Program} {w : World} {K : PySem.W.Frag} {mg : Str → Option Value} {base : Heap}
theorem cal_f_is_from (T : Tx K mg base) : Cal P w K mg base 1 "is_from" 3 true f_is_from := by
  refine cal_of T.d_is_from (fun F => F.bindsN fun _ _ _ _ _ _ us hl => match us, hl with | [_, _, _], _ => rfl) fun {f fd} F => def_ok F sc_f_is_from rfl fun cdv A outer s H E hr => ?_
  have nd := sc_f_is_from.nd
  have hu := hr.units
  have hu5 := units5 hr
  have tk := takes_of (X := cxOf (L2.CX P w) P w K mg base N_f_is_from "is_from" (defScope s_f_is_from) f cdv A outer s H E) rfl rfl rfl rfl
  have hps := passes_of (X := cxOf (L2.CX P w) P w K mg base N_f_is_from "is_from" (defScope s_f_is_from) f cdv A outer s H E) rfl
  exact sss_one (ss_ret (se_and (se_callB call_isi ok_isi (by rfl) T.b_isinstance (by decide +kernel) (sa_cons (se_var (pv 0)) (sa_cons (se_ty (by rfl) T.b_int (by decide +kernel)) (sa_nil)))) (se_and (se_not (se_callB call_isi ok_isi (by rfl) T.b_isinstance (by decide +kernel) (sa_cons (se_var (pv 0)) (sa_cons (se_ty (by rfl) T.b_bool (by decide +kernel)) (sa_nil))))) (se_one (se_chain op_le op_le ok_le ok_le (se_var (pv 1)) (se_var (pv 0)) (se_var (pv 2)) (fun ha hb hc => pe_chain op_le op_le ha hb hc))))))
theorem cal_f_lowest (T : Tx K mg base) : Cal P w K mg base 1 "lowest" 2 true f_lowest := by
  refine cal_of T.d_lowest (fun F => F.bindsN fun _ _ _ _ _ _ us hl => match us, hl with | [_, _], _ => rfl) fun {f fd} F => def_ok F sc_f_lowest rfl fun cdv A outer s H E hr => ?_
  have nd := sc_f_lowest.nd
  have hu := hr.units
  have hu5 := units5 hr
  have tk := takes_of (X := cxOf (L2.CX P w) P w K mg base N_f_lowest "lowest" (defScope s_f_lowest) f cdv A outer s H E) rfl rfl rfl rfl
  have hps := passes_of (X := cxOf (L2.CX P w) P w K mg base N_f_lowest "lowest" (defScope s_f_lowest) f cdv A outer s H E) rfl
  exact sss_cons (ss_par0 (i := 2) (j := 3) rfl nd rfl rfl (by decide) rfl rfl (sa_cons (se_callB call_abs ok_abs (by rfl) T.b_abs (by decide +kernel) (sa_cons (se_var (pv 0)) (sa_nil))) (sa_cons (se_var (pv 1)) (sa_nil))) rfl) (sss_cons (ss_while hps (st_cmpA (op_neD hu) ok_ne (se_var (pv 3)) (se_int) (nomark _)) (sss_one (ss_par0 (i := 2) (j := 3) rfl nd rfl rfl (by decide) rfl rfl (sa_cons (se_var (pv 3)) (sa_cons (se_op op_mod ok_mod (se_var (pv 2)) (se_var (pv 3))) (sa_nil))) rfl))) (sss_one (ss_ret (se_tup (sa_cons (se_op op_fdivAll ok_fdiv (se_var (pv 0)) (se_var (pv 2))) (sa_cons (se_op op_fdivAll ok_fdiv (se_var (pv 1)) (se_var (pv 2))) (sa_nil)))))))
theorem cal_f_plus (T : Tx K mg base) : Cal P w K mg base 2 "plus" 2 true f_plus := by
  have c_lowest := cal_f_lowest (P := P) (w := w) (base := base) T
  refine cal_of T.d_plus (fun F => F.bindsN fun _ _ _ _ _ _ us hl => match us, hl with | [_, _], _ => rfl) fun {f fd} F => def_ok F sc_f_plus rfl fun cdv A outer s H E hr => ?_
  have nd := sc_f_plus.nd
  have hu := hr.units
  have hu5 := units5 hr
  have tk := takes_of (X := cxOf (L2.CX P w) P w K mg base N_f_plus "plus" (defScope s_f_plus) f cdv A outer s H E) rfl rfl rfl rfl
  have hps := passes_of (X := cxOf (L2.CX P w) P w K mg base N_f_plus "plus" (defScope s_f_plus) f cdv A outer s H E) rfl
  exact sss_one (ss_ret (se_call c_lowest (hr.mono (by first | decide | omega)) tk rfl (sa_cons (se_op op_addAll ok_add (se_op op_mulAll ok_mul (se_ix (se_var (pv 0)) (se_int) (fun _ _ => rfl)) (se_ix (se_var (pv 1)) (se_int) (fun _ _ => rfl))) (se_op op_mulAll ok_mul (se_ix (se_var (pv 1)) (se_int) (fun _ _ => rfl)) (se_ix (se_var (pv 0)) (se_int) (fun _ _ => rfl)))) (sa_cons (se_op op_mulAll ok_mul (se_ix (se_var (pv 0)) (se_int) (fun _ _ => rfl)) (se_ix (se_var (pv 1)) (se_int) (fun _ _ => rfl))) (sa_nil)))))
theorem cal_f_is_less (T : Tx K mg base) : Cal P w K mg base 1 "is_less" 2 true f_is_less := by
  refine cal_of T.d_is_less (fun F => F.bindsN fun _ _ _ _ _ _ us hl => match us, hl with | [_, _], _ => rfl) fun {f fd} F => def_ok F sc_f_is_less rfl fun cdv A outer s H E hr => ?_
  have nd := sc_f_is_less.nd
  have hu := hr.units
  have hu5 := units5 hr
  have tk := takes_of (X := cxOf (L2.CX P w) P w K mg base N_f_is_less "is_less" (defScope s_f_is_less) f cdv A outer s H E) rfl rfl rfl rfl
  have hps := passes_of (X := cxOf (L2.CX P w) P w K mg base N_f_is_less "is_less" (defScope s_f_is_less) f cdv A outer s H E) rfl
  exact sss_one (ss_ret (se_cmp op_lt ok_lt (se_op op_mulAll ok_mul (se_ix (se_var (pv 0)) (se_int) (fun _ _ => rfl)) (se_ix (se_var (pv 1)) (se_int) (fun _ _ => rfl))) (se_op op_mulAll ok_mul (se_ix (se_var (pv 1)) (se_int) (fun _ _ => rfl)) (se_ix (se_var (pv 0)) (se_int) (fun _ _ => rfl))) (nomark _)))
theorem cal_f_is_fraction (T : Tx K mg base) : Cal P w K mg base 2 "is_fraction" 2 true f_is_fraction := by
  have c_is_from := cal_f_is_from (P := P) (w := w) (base := base) T
  have c_lowest := cal_f_lowest (P := P) (w := w) (base := base) T
  refine cal_of T.d_is_fraction (fun F => F.bindsN fun _ _ _ _ _ _ us hl => match us, hl with | [_, _], _ => rfl) fun {f fd} F => def_ok F sc_f_is_fraction rfl fun cdv A outer s H E hr => ?_
  have nd := sc_f_is_fraction.nd
  have hu := hr.units
  have hu5 := units5 hr
  have tk := takes_of (X := cxOf (L2.CX P w) P w K mg base N_f_is_fraction "is_fraction" (defScope s_f_is_fraction) f cdv A outer s H E) rfl rfl rfl rfl
  have hps := passes_of (X := cxOf (L2.CX P w) P w K mg base N_f_is_fraction "is_fraction" (defScope s_f_is_fraction) f cdv A outer s H E) rfl
  exact sss_cons (ss_if (SW.st (sw_or (st_not (st_val (se_callB call_isi ok_isi (by rfl) T.b_isinstance (by decide +kernel) (sa_cons (se_var (pv 0)) (sa_cons (se_ty (by rfl) T.b_tuple (by decide +kernel)) (sa_nil)))))) (sw_or (st_cmpA (op_neD hu) ok_ne (se_callB call_lenAll ok_len (by rfl) T.b_len PySem.boot_len (sa_cons (se_var (pv 0)) (sa_nil))) (se_int) (nomark _)) (sw_or1 (st_not (st_val (se_call c_is_from (hr.mono (by first | decide | omega)) tk rfl (sa_cons (se_ix (se_var (pv 0)) (se_int) (fun _ _ => rfl)) (sa_cons (se_op op_sub ok_sub (se_int) (se_var (pv 1))) (sa_cons (se_var (pv 1)) (sa_nil))))))))))) (sss_one (ss_ret (se_bl))) (sss_nil)) (sss_one (ss_ret (se_and (se_call c_is_from (hr.mono (by first | decide | omega)) tk rfl (sa_cons (se_ix (se_var (pv 0)) (se_int) (fun _ _ => rfl)) (sa_cons (se_int) (sa_cons (se_var (pv 1)) (sa_nil))))) (se_one (se_cmp (op_eqD hu) ok_eq (se_call c_lowest (hr.mono (by first | decide | omega)) tk rfl (sa_cons (se_ix (se_var (pv 0)) (se_int) (fun _ _ => rfl)) (sa_cons (se_ix (se_var (pv 0)) (se_int) (fun _ _ => rfl)) (sa_nil)))) (se_var (pv 0)) (nomark _))))))
theorem cal_f_is_gap (T : Tx K mg base) : Cal P w K mg base 2 "is_gap" 2 true f_is_gap := by
  have c_is_from := cal_f_is_from (P := P) (w := w) (base := base) T
  refine cal_of T.d_is_gap (fun F => F.bindsN fun _ _ _ _ _ _ us hl => match us, hl with | [_, _], _ => rfl) fun {f fd} F => def_ok F sc_f_is_gap rfl fun cdv A outer s H E hr => ?_
  have nd := sc_f_is_gap.nd
  have hu := hr.units
  have hu5 := units5 hr
  have tk := takes_of (X := cxOf (L2.CX P w) P w K mg base N_f_is_gap "is_gap" (defScope s_f_is_gap) f cdv A outer s H E) rfl rfl rfl rfl
  have hps := passes_of (X := cxOf (L2.CX P w) P w K mg base N_f_is_gap "is_gap" (defScope s_f_is_gap) f cdv A outer s H E) rfl
  exact sss_cons (ss_if (SW.st (sw_or (st_not (st_val (se_callB call_isi ok_isi (by rfl) T.b_isinstance (by decide +kernel) (sa_cons (se_var (pv 1)) (sa_cons (se_ty (by rfl) T.b_tuple (by decide +kernel)) (sa_nil)))))) (sw_or1 (st_cmpA (op_neD hu) ok_ne (se_callB call_lenAll ok_len (by rfl) T.b_len PySem.boot_len (sa_cons (se_var (pv 1)) (sa_nil))) (se_int) (nomark _))))) (sss_one (ss_ret (se_bl))) (sss_nil)) (sss_cons (ss_if (SW.st (sw_or (st_not (st_val (se_callB (cr_all rfl) ok_all (by rfl) T.b_all (by decide +kernel) (sa_cons (se_lc rfl nd (own := [("part", 2)]) (si_seq (se_sl (se_var (pv 1)) (so_none) (so_some (se_int)))) (blkOk_by (N := N_f_is_gap) (sc := defScope s_f_is_gap) (by decide +kernel)) (fun _ _ _ _ _ => sg_name (i := 2) nd rfl (.inl rfl)) (fun _ _ _ _ _ => pts_yes) (fun _ _ _ _ _ => se_call c_is_from (hr.mono (by first | decide | omega)) takes0 rfl (sa_cons (se_var (pv 2)) (sa_cons (se_int) (sa_cons (se_op op_sub ok_sub (se_op op_mulAll ok_mul (se_int) (se_var (pv 0))) (se_int)) (sa_nil)))))) (sa_nil))))) (sw_or1 (st_cmpA (op_eqD hu) ok_eq (se_ix (se_var (pv 1)) (se_int) (fun _ _ => rfl)) (se_ix (se_var (pv 1)) (se_int) (fun _ _ => rfl)) (nomark _))))) (sss_one (ss_ret (se_bl))) (sss_nil)) (sss_one (ss_ret (se_call c_is_from (hr.mono (by first | decide | omega)) tk rfl (sa_cons (se_ix (se_var (pv 1)) (se_int) (fun _ _ => rfl)) (sa_cons (se_un un_neg ok_neg (se_int)) (sa_cons (se_int) (sa_nil))))))))
theorem cal_f_is_good_book (T : Tx K mg base) : Cal P w K mg base 3 "is_good_book" 1 true f_is_good_book := by
  have c_is_from := cal_f_is_from (P := P) (w := w) (base := base) T
  have c_is_gap := cal_f_is_gap (P := P) (w := w) (base := base) T
  refine cal_of T.d_is_good_book (fun F => F.bindsN fun _ _ _ _ _ _ us hl => match us, hl with | [_], _ => rfl) fun {f fd} F => def_ok F sc_f_is_good_book rfl fun cdv A outer s H E hr => ?_
  have nd := sc_f_is_good_book.nd
  have hu := hr.units
  have hu5 := units5 hr
  have tk := takes_of (X := cxOf (L2.CX P w) P w K mg base N_f_is_good_book "is_good_book" (defScope s_f_is_good_book) f cdv A outer s H E) rfl rfl rfl rfl
  have hps := passes_of (X := cxOf (L2.CX P w) P w K mg base N_f_is_good_book "is_good_book" (defScope s_f_is_good_book) f cdv A outer s H E) rfl
  exact sss_cons (ss_if (SW.st (sw_or (st_not (st_val (se_callB call_isi ok_isi (by rfl) T.b_isinstance (by decide +kernel) (sa_cons (se_var (pv 0)) (sa_cons (se_ty (by rfl) T.b_tuple (by decide +kernel)) (sa_nil)))))) (sw_or (st_cmpA (op_neD hu) ok_ne (se_callB call_lenAll ok_len (by rfl) T.b_len PySem.boot_len (sa_cons (se_var (pv 0)) (sa_nil))) (se_int) (nomark _)) (sw_or1 (st_not (st_val (se_call c_is_from (hr.mono (by first | decide | omega)) tk rfl (sa_cons (se_ix (se_var (pv 0)) (se_int) (fun _ _ => rfl)) (sa_cons (se_int) (sa_cons (se_int) (sa_nil))))))))))) (sss_one (ss_ret (se_bl))) (sss_nil)) (sss_cons (ss_if (SW.st (sw_or (st_not (st_val (se_callB call_isi ok_isi (by rfl) T.b_isinstance (by decide +kernel) (sa_cons (se_ix (se_var (pv 0)) (se_int) (fun _ _ => rfl)) (sa_cons (se_ty (by rfl) T.b_tuple (by decide +kernel)) (sa_nil)))))) (sw_or1 (st_cmpA op_gt ok_gt (se_callB call_lenAll ok_len (by rfl) T.b_len PySem.boot_len (sa_cons (se_ix (se_var (pv 0)) (se_int) (fun _ _ => rfl)) (sa_nil))) (se_int) (nomark _))))) (sss_one (ss_ret (se_bl))) (sss_nil)) (sss_one (ss_ret (se_callB (cr_all rfl) ok_all (by rfl) T.b_all (by decide +kernel) (sa_cons (se_lc rfl nd (own := [("fact", 1)]) (si_seq (se_ix (se_var (pv 0)) (se_int) (fun _ _ => rfl))) (blkOk_by (N := N_f_is_good_book) (sc := defScope s_f_is_good_book) (by decide +kernel)) (fun _ _ _ _ _ => sg_name (i := 1) nd rfl (.inl rfl)) (fun _ _ _ _ _ => pts_yes) (fun _ _ _ _ _ => se_call c_is_gap (hr.mono (by first | decide | omega)) takes0 rfl (sa_cons (se_ix (se_var (pv 0)) (se_int) (fun _ _ => rfl)) (sa_cons (se_var (pv 1)) (sa_nil))))) (sa_nil))))))
theorem cal_f_is_step (T : Tx K mg base) : Cal P w K mg base 2 "is_step" 2 true f_is_step := by
  have c_is_from := cal_f_is_from (P := P) (w := w) (base := base) T
  refine cal_of T.d_is_step (fun F => F.bindsN fun _ _ _ _ _ _ us hl => match us, hl with | [_, _], _ => rfl) fun {f fd} F => def_ok F sc_f_is_step rfl fun cdv A outer s H E hr => ?_
  have nd := sc_f_is_step.nd
  have hu := hr.units
  have hu5 := units5 hr
  have tk := takes_of (X := cxOf (L2.CX P w) P w K mg base N_f_is_step "is_step" (defScope s_f_is_step) f cdv A outer s H E) rfl rfl rfl rfl
  have hps := passes_of (X := cxOf (L2.CX P w) P w K mg base N_f_is_step "is_step" (defScope s_f_is_step) f cdv A outer s H E) rfl
  exact sss_cons (ss_if (SW.st (sw_or (st_not (st_val (se_callB call_isi ok_isi (by rfl) T.b_isinstance (by decide +kernel) (sa_cons (se_var (pv 1)) (sa_cons (se_ty (by rfl) T.b_tuple (by decide +kernel)) (sa_nil)))))) (sw_or (st_cmpA (op_eqD hu) ok_eq (se_var (pv 1)) (se_tup (sa_nil)) (nomark _)) (sw_or1 (st_not (st_val (se_callB call_isi ok_isi (by rfl) T.b_isinstance (by decide +kernel) (sa_cons (se_ix (se_var (pv 1)) (se_int) (fun _ _ => rfl)) (sa_cons (se_ty (by rfl) T.b_str (by decide +kernel)) (sa_nil)))))))))) (sss_one (ss_ret (se_bl))) (sss_nil)) (sss_cons (ss_if (st_cmpA (op_eqD hu) ok_eq (se_ix (se_var (pv 1)) (se_int) (fun _ _ => rfl)) (se_str) (nomark _)) (sss_one (ss_ret (se_and (se_cmp (op_eqD hu) ok_eq (se_callB call_lenAll ok_len (by rfl) T.b_len PySem.boot_len (sa_cons (se_var (pv 1)) (sa_nil))) (se_int) (nomark _)) (se_and (se_call c_is_from (hr.mono (by first | decide | omega)) tk rfl (sa_cons (se_ix (se_var (pv 1)) (se_int) (fun _ _ => rfl)) (sa_cons (se_int) (sa_cons (se_op op_sub ok_sub (se_var (pv 0)) (se_int)) (sa_nil))))) (se_one (se_call c_is_from (hr.mono (by first | decide | omega)) tk rfl (sa_cons (se_ix (se_var (pv 1)) (se_int) (fun _ _ => rfl)) (sa_cons (se_un un_neg ok_neg (se_int)) (sa_cons (se_int) (sa_nil)))))))))) (sss_nil)) (sss_one (ss_ret (se_and (se_cmp (op_inAll hu5) ok_in (se_ix (se_var (pv 1)) (se_int) (fun _ _ => rfl)) (se_tup (sa_cons (se_str) (sa_cons (se_str) (sa_cons (se_str) (sa_cons (se_str) (sa_nil)))))) (by rfl)) (se_and (se_cmp (op_eqD hu) ok_eq (se_callB call_lenAll ok_len (by rfl) T.b_len PySem.boot_len (sa_cons (se_var (pv 1)) (sa_nil))) (se_int) (nomark _)) (se_one (se_call c_is_from (hr.mono (by first | decide | omega)) tk rfl (sa_cons (se_ix (se_var (pv 1)) (se_int) (fun _ _ => rfl)) (sa_cons (se_int) (sa_cons (se_int) (sa_nil)))))))))))
theorem cal_f_is_good_script (T : Tx K mg base) : Cal P w K mg base 3 "is_good_script" 2 true f_is_good_script := by
  have c_is_step := cal_f_is_step (P := P) (w := w) (base := base) T
  refine cal_of T.d_is_good_script (fun F => F.bindsN fun _ _ _ _ _ _ us hl => match us, hl with | [_, _], _ => rfl) fun {f fd} F => def_ok F sc_f_is_good_script rfl fun cdv A outer s H E hr => ?_
  have nd := sc_f_is_good_script.nd
  have hu := hr.units
  have hu5 := units5 hr
  have tk := takes_of (X := cxOf (L2.CX P w) P w K mg base N_f_is_good_script "is_good_script" (defScope s_f_is_good_script) f cdv A outer s H E) rfl rfl rfl rfl
  have hps := passes_of (X := cxOf (L2.CX P w) P w K mg base N_f_is_good_script "is_good_script" (defScope s_f_is_good_script) f cdv A outer s H E) rfl
  exact sss_one (ss_ret (se_and (se_callB call_isi ok_isi (by rfl) T.b_isinstance (by decide +kernel) (sa_cons (se_var (pv 1)) (sa_cons (se_ty (by rfl) T.b_tuple (by decide +kernel)) (sa_nil)))) (se_and (se_cmp op_le ok_le (se_callB call_lenAll ok_len (by rfl) T.b_len PySem.boot_len (sa_cons (se_var (pv 1)) (sa_nil))) (se_int) (nomark _)) (se_one (se_callB (cr_all rfl) ok_all (by rfl) T.b_all (by decide +kernel) (sa_cons (se_lc rfl nd (own := [("step", 2)]) (si_seq (se_var (pv 1))) (blkOk_by (N := N_f_is_good_script) (sc := defScope s_f_is_good_script) (by decide +kernel)) (fun _ _ _ _ _ => sg_name (i := 2) nd rfl (.inl rfl)) (fun _ _ _ _ _ => pts_yes) (fun _ _ _ _ _ => se_call c_is_step (hr.mono (by first | decide | omega)) takes0 rfl (sa_cons (se_var (pv 0)) (sa_cons (se_var (pv 2)) (sa_nil))))) (sa_nil)))))))
theorem cal_f_are_good_moments (T : Tx K mg base) : Cal P w K mg base 3 "are_good_moments" 2 true f_are_good_moments := by
  have c_is_fraction := cal_f_is_fraction (P := P) (w := w) (base := base) T
  refine cal_of T.d_are_good_moments (fun F => F.bindsN fun _ _ _ _ _ _ us hl => match us, hl with | [_, _], _ => rfl) fun {f fd} F => def_ok F sc_f_are_good_moments rfl fun cdv A outer s H E hr => ?_
  have nd := sc_f_are_good_moments.nd
  have hu := hr.units
  have hu5 := units5 hr
  have tk := takes_of (X := cxOf (L2.CX P w) P w K mg base N_f_are_good_moments "are_good_moments" (defScope s_f_are_good_moments) f cdv A outer s H E) rfl rfl rfl rfl
  have hps := passes_of (X := cxOf (L2.CX P w) P w K mg base N_f_are_good_moments "are_good_moments" (defScope s_f_are_good_moments) f cdv A outer s H E) rfl
  exact sss_cons (ss_if (SW.st (sw_or (st_not (st_val (se_callB call_isi ok_isi (by rfl) T.b_isinstance (by decide +kernel) (sa_cons (se_var (pv 1)) (sa_cons (se_ty (by rfl) T.b_tuple (by decide +kernel)) (sa_nil)))))) (sw_or1 (st_cmpA (op_neD hu) ok_ne (se_callB call_lenAll ok_len (by rfl) T.b_len PySem.boot_len (sa_cons (se_var (pv 1)) (sa_nil))) (se_op op_mulAll ok_mul (se_int) (se_var (pv 0))) (nomark _))))) (sss_one (ss_ret (se_bl))) (sss_nil)) (sss_one (ss_ret (se_callB (cr_all rfl) ok_all (by rfl) T.b_all (by decide +kernel) (sa_cons (se_lc rfl nd (own := [("part", 2)]) (si_seq (se_var (pv 1))) (blkOk_by (N := N_f_are_good_moments) (sc := defScope s_f_are_good_moments) (by decide +kernel)) (fun _ _ _ _ _ => sg_name (i := 2) nd rfl (.inl rfl)) (fun _ _ _ _ _ => pts_yes) (fun _ _ _ _ _ => se_call c_is_fraction (hr.mono (by first | decide | omega)) takes0 rfl (sa_cons (se_var (pv 2)) (sa_cons (se_op op_pow ok_pow (se_int) (se_int)) (sa_nil))))) (sa_nil)))))
theorem cal_f_need_book (T : Tx K mg base) : Cal P w K mg base 4 "need_book" 1 false f_need_book := by
  have c_is_good_book := cal_f_is_good_book (P := P) (w := w) (base := base) T
  refine cal_of T.d_need_book (fun F => F.bindsN fun _ _ _ _ _ _ us hl => match us, hl with | [_], _ => rfl) fun {f fd} F => def_ok F sc_f_need_book rfl fun cdv A outer s H E hr => ?_
  have nd := sc_f_need_book.nd
  have hu := hr.units
  have hu5 := units5 hr
  have tk := takes_of (X := cxOf (L2.CX P w) P w K mg base N_f_need_book "need_book" (defScope s_f_need_book) f cdv A outer s H E) rfl rfl rfl rfl
  have hps := passes_of (X := cxOf (L2.CX P w) P w K mg base N_f_need_book "need_book" (defScope s_f_need_book) f cdv A outer s H E) rfl
  exact sss_one (ss_if (st_not (st_val (se_call c_is_good_book (hr.mono (by first | decide | omega)) tk rfl (sa_cons (se_var (pv 0)) (sa_nil))))) (sss_one (ss_raise rfl tk T.g_InvalidBook T.e_InvalidBook rfl)) (sss_nil))
theorem cal_f_need_script (T : Tx K mg base) : Cal P w K mg base 4 "need_script" 2 false f_need_script := by
  have c_is_good_script := cal_f_is_good_script (P := P) (w := w) (base := base) T
  refine cal_of T.d_need_script (fun F => F.bindsN fun _ _ _ _ _ _ us hl => match us, hl with | [_, _], _ => rfl) fun {f fd} F => def_ok F sc_f_need_script rfl fun cdv A outer s H E hr => ?_
  have nd := sc_f_need_script.nd
  have hu := hr.units
  have hu5 := units5 hr
  have tk := takes_of (X := cxOf (L2.CX P w) P w K mg base N_f_need_script "need_script" (defScope s_f_need_script) f cdv A outer s H E) rfl rfl rfl rfl
  have hps := passes_of (X := cxOf (L2.CX P w) P w K mg base N_f_need_script "need_script" (defScope s_f_need_script) f cdv A outer s H E) rfl
  exact sss_one (ss_if (st_not (st_val (se_call c_is_good_script (hr.mono (by first | decide | omega)) tk rfl (sa_cons (se_var (pv 0)) (sa_cons (se_var (pv 1)) (sa_nil)))))) (sss_one (ss_raise rfl tk T.g_InvalidScript T.e_InvalidScript rfl)) (sss_nil))
theorem cal_f_need_moments (T : Tx K mg base) : Cal P w K mg base 4 "need_moments" 2 false f_need_moments := by
  have c_are_good_moments := cal_f_are_good_moments (P := P) (w := w) (base := base) T
  refine cal_of T.d_need_moments (fun F => F.bindsN fun _ _ _ _ _ _ us hl => match us, hl with | [_, _], _ => rfl) fun {f fd} F => def_ok F sc_f_need_moments rfl fun cdv A outer s H E hr => ?_
  have nd := sc_f_need_moments.nd
  have hu := hr.units
  have hu5 := units5 hr
  have tk := takes_of (X := cxOf (L2.CX P w) P w K mg base N_f_need_moments "need_moments" (defScope s_f_need_moments) f cdv A outer s H E) rfl rfl rfl rfl
  have hps := passes_of (X := cxOf (L2.CX P w) P w K mg base N_f_need_moments "need_moments" (defScope s_f_need_moments) f cdv A outer s H E) rfl
  exact sss_one (ss_if (st_not (st_val (se_call c_are_good_moments (hr.mono (by first | decide | omega)) tk rfl (sa_cons (se_var (pv 0)) (sa_cons (se_var (pv 1)) (sa_nil)))))) (sss_one (ss_raise rfl tk T.g_InvalidMoments T.e_InvalidMoments rfl)) (sss_nil))
theorem cal_f_is_kept (T : Tx K mg base) : Cal P w K mg base 3 "is_kept" 2 true f_is_kept := by
  have c_is_less := cal_f_is_less (P := P) (w := w) (base := base) T
  have c_plus := cal_f_plus (P := P) (w := w) (base := base) T
  refine cal_of T.d_is_kept (fun F => F.bindsN fun _ _ _ _ _ _ us hl => match us, hl with | [_, _], _ => rfl) fun {f fd} F => def_ok F sc_f_is_kept rfl fun cdv A outer s H E hr => ?_
  have nd := sc_f_is_kept.nd
  have hu := hr.units
  have hu5 := units5 hr
  have tk := takes_of (X := cxOf (L2.CX P w) P w K mg base N_f_is_kept "is_kept" (defScope s_f_is_kept) f cdv A outer s H E) rfl rfl rfl rfl
  have hps := passes_of (X := cxOf (L2.CX P w) P w K mg base N_f_is_kept "is_kept" (defScope s_f_is_kept) f cdv A outer s H E) rfl
  exact sss_one (ss_ret (se_not (se_call c_is_less (hr.mono (by first | decide | omega)) tk rfl (sa_cons (se_ix (se_var (pv 0)) (se_ix (se_var (pv 1)) (se_int) (fun _ _ => rfl)) (fun _ _ => rfl)) (sa_cons (se_call c_plus (hr.mono (by first | decide | omega)) tk rfl (sa_cons (se_ix (se_var (pv 0)) (se_ix (se_var (pv 1)) (se_int) (fun _ _ => rfl)) (fun _ _ => rfl)) (sa_cons (se_tup (sa_cons (se_ix (se_var (pv 1)) (se_int) (fun _ _ => rfl)) (sa_cons (se_int) (sa_nil)))) (sa_nil)))) (sa_nil))))))
theorem cal_f_keeps (T : Tx K mg base) : Cal P w K mg base 5 "keeps" 2 true f_keeps := by
  have c_need_book := cal_f_need_book (P := P) (w := w) (base := base) T
  have c_need_moments := cal_f_need_moments (P := P) (w := w) (base := base) T
  have c_is_kept := cal_f_is_kept (P := P) (w := w) (base := base) T
  refine cal_of T.d_keeps (fun F => F.bindsN fun _ _ _ _ _ _ us hl => match us, hl with | [_, _], _ => rfl) fun {f fd} F => def_ok F sc_f_keeps rfl fun cdv A outer s H E hr => ?_
  have nd := sc_f_keeps.nd
  have hu := hr.units
  have hu5 := units5 hr
  have tk := takes_of (X := cxOf (L2.CX P w) P w K mg base N_f_keeps "keeps" (defScope s_f_keeps) f cdv A outer s H E) rfl rfl rfl rfl
  have hps := passes_of (X := cxOf (L2.CX P w) P w K mg base N_f_keeps "keeps" (defScope s_f_keeps) f cdv A outer s H E) rfl
  exact sss_cons (ss_drop (se_call c_need_book (hr.mono (by first | decide | omega)) tk rfl (sa_cons (se_var (pv 0)) (sa_nil)))) (sss_cons (ss_drop (se_call c_need_moments (hr.mono (by first | decide | omega)) tk rfl (sa_cons (se_ix (se_var (pv 0)) (se_int) (fun _ _ => rfl)) (sa_cons (se_var (pv 1)) (sa_nil))))) (sss_one (ss_ret (se_callB (cr_all rfl) ok_all (by rfl) T.b_all (by decide +kernel) (sa_cons (se_lc rfl nd (own := [("fact", 2)]) (si_seq (se_ix (se_var (pv 0)) (se_int) (fun _ _ => rfl))) (blkOk_by (N := N_f_keeps) (sc := defScope s_f_keeps) (by decide +kernel)) (fun _ _ _ _ _ => sg_name (i := 2) nd rfl (.inl rfl)) (fun _ _ _ _ _ => pts_yes) (fun _ _ _ _ _ => se_call c_is_kept (hr.mono (by first | decide | omega)) takes0 rfl (sa_cons (se_var (pv 1)) (sa_cons (se_var (pv 2)) (sa_nil))))) (sa_nil))))))
theorem cal_f_tests_of (T : Tx K mg base) : Cal P w K mg base 1 "tests_of" 2 false f_tests_of := by
  refine cal_of T.d_tests_of (fun F => F.bindsN fun _ _ _ _ _ _ us hl => match us, hl with | [_, _], _ => rfl) fun {f fd} F => def_ok F sc_f_tests_of rfl fun cdv A outer s H E hr => ?_
  have nd := sc_f_tests_of.nd
  have hu := hr.units
  have hu5 := units5 hr
  have tk := takes_of (X := cxOf (L2.CX P w) P w K mg base N_f_tests_of "tests_of" (defScope s_f_tests_of) f cdv A outer s H E) rfl rfl rfl rfl
  have hps := passes_of (X := cxOf (L2.CX P w) P w K mg base N_f_tests_of "tests_of" (defScope s_f_tests_of) f cdv A outer s H E) rfl
  exact sss_cons (ss_asgG (se_tup (sa_cons (se_ix (se_var (pv 1)) (se_int) (fun _ _ => rfl)) (sa_cons (se_ix (se_var (pv 1)) (se_un un_neg ok_neg (se_int)) (fun _ _ => rfl)) (sa_nil)))) (sgt_tup rfl (sgts_cons (sgt_name (i := 2) nd rfl (.inl rfl)) (sgts_cons (sgt_name (i := 3) nd rfl (.inr rfl)) (sgts_nil))))) (sss_cons (ss_par0 (i := 4) (j := 5) rfl nd rfl rfl (by decide) rfl rfl (sa_cons (se_lstR1 rfl (by rfl) T.b_list (by rfl) T.b_range (se_var (pv 0))) (sa_cons (se_lst (sa_nil)) (sa_nil))) rfl) (sss_cons (ss_if (st_cmpA (op_eqD hu) ok_eq (se_var (pv 2)) (se_str) (nomark _)) (sss_one (ss_setLc (i := 5) rfl nd rfl rfl (sw_true rfl rfl rfl (by decide +kernel)) (own := [("cue", 6)]) (si_seq (se_sl (se_var (pv 4)) (so_some (se_int)) (so_none))) (blkOk_by (N := N_f_tests_of) (sc := defScope s_f_tests_of) (by decide +kernel)) (fun _ _ _ _ _ => sg_name (i := 6) nd rfl (.inl rfl)) (fun _ _ _ _ _ => pts_yes) (fun _ _ _ _ _ => se_tup (sa_cons (se_op op_sub ok_sub (se_op op_mulAll ok_mul (se_int) (se_var (pv 6))) (se_int)) (sa_cons (se_op op_mulAll ok_mul (se_int) (se_var (pv 6))) (sa_cons (se_var (pv 3)) (sa_cons (se_op op_mulAll ok_mul (se_int) (se_var (pv 6))) (sa_cons (se_op op_sub ok_sub (se_op op_mulAll ok_mul (se_int) (se_var (pv 6))) (se_int)) (sa_cons (se_var (pv 3)) (sa_nil)))))))))) (sss_nil)) (sss_cons (ss_if (st_cmpA (op_eqD hu) ok_eq (se_var (pv 2)) (se_str) (nomark _)) (sss_one (ss_setLc (i := 5) rfl nd rfl rfl (sw_true rfl rfl rfl (by decide +kernel)) (own := [("cue", 6)]) (si_seq (se_sl (se_var (pv 4)) (so_none) (so_some (se_un un_neg ok_neg (se_int))))) (blkOk_by (N := N_f_tests_of) (sc := defScope s_f_tests_of) (by decide +kernel)) (fun _ _ _ _ _ => sg_name (i := 6) nd rfl (.inl rfl)) (fun _ _ _ _ _ => pts_yes) (fun _ _ _ _ _ => se_tup (sa_cons (se_op op_addAll ok_add (se_op op_mulAll ok_mul (se_int) (se_var (pv 6))) (se_int)) (sa_cons (se_op op_addAll ok_add (se_op op_mulAll ok_mul (se_int) (se_var (pv 6))) (se_int)) (sa_cons (se_var (pv 3)) (sa_cons (se_op op_addAll ok_add (se_op op_mulAll ok_mul (se_int) (se_var (pv 6))) (se_int)) (sa_cons (se_op op_addAll ok_add (se_op op_mulAll ok_mul (se_int) (se_var (pv 6))) (se_int)) (sa_cons (se_op op_sub ok_sub (se_int) (se_var (pv 3))) (sa_nil)))))))))) (sss_nil)) (sss_cons (ss_if (st_cmpA (op_eqD hu) ok_eq (se_var (pv 2)) (se_str) (nomark _)) (sss_one (ss_setLc (i := 5) rfl nd rfl rfl (sw_true rfl rfl rfl (by decide +kernel)) (own := [("cue", 6)]) (si_seq (se_var (pv 4))) (blkOk_by (N := N_f_tests_of) (sc := defScope s_f_tests_of) (by decide +kernel)) (fun _ _ _ _ _ => sg_name (i := 6) nd rfl (.inl rfl)) (fun _ _ _ _ _ => pts_yes) (fun _ _ _ _ _ => se_tup (sa_cons (se_op op_mulAll ok_mul (se_int) (se_var (pv 6))) (sa_cons (se_op op_addAll ok_add (se_op op_mulAll ok_mul (se_int) (se_var (pv 6))) (se_int)) (sa_cons (se_var (pv 3)) (sa_cons (se_op op_addAll ok_add (se_op op_mulAll ok_mul (se_int) (se_var (pv 6))) (se_int)) (sa_cons (se_op op_mulAll ok_mul (se_int) (se_var (pv 6))) (sa_cons (se_var (pv 3)) (sa_nil)))))))))) (sss_nil)) (sss_cons (ss_if (st_cmpA (op_eqD hu) ok_eq (se_var (pv 2)) (se_str) (nomark _)) (sss_one (ss_setLc (i := 5) rfl nd rfl rfl (sw_true rfl rfl rfl (by decide +kernel)) (own := [("cue", 6)]) (si_seq (se_var (pv 4))) (blkOk_by (N := N_f_tests_of) (sc := defScope s_f_tests_of) (by decide +kernel)) (fun _ _ _ _ _ => sg_name (i := 6) nd rfl (.inl rfl)) (fun _ _ _ _ _ => pts_yes) (fun _ _ _ _ _ => se_tup (sa_cons (se_op op_addAll ok_add (se_op op_mulAll ok_mul (se_int) (se_var (pv 6))) (se_int)) (sa_cons (se_op op_mulAll ok_mul (se_int) (se_var (pv 6))) (sa_cons (se_op op_sub ok_sub (se_int) (se_var (pv 3))) (sa_cons (se_op op_addAll ok_add (se_op op_mulAll ok_mul (se_int) (se_var (pv 6))) (se_int)) (sa_cons (se_op op_mulAll ok_mul (se_int) (se_var (pv 6))) (sa_cons (se_var (pv 3)) (sa_nil)))))))))) (sss_nil)) (sss_one (ss_ret (se_var (pv 5)))))))))
theorem cal_f_later_by (T : Tx K mg base) : Cal P w K mg base 3 "later_by" 2 true f_later_by := by
  have c_plus := cal_f_plus (P := P) (w := w) (base := base) T
  refine cal_of T.d_later_by (fun F => F.bindsN fun _ _ _ _ _ _ us hl => match us, hl with | [_, _], _ => rfl) fun {f fd} F => def_ok F sc_f_later_by rfl fun cdv A outer s H E hr => ?_
  have nd := sc_f_later_by.nd
  have hu := hr.units
  have hu5 := units5 hr
  have tk := takes_of (X := cxOf (L2.CX P w) P w K mg base N_f_later_by "later_by" (defScope s_f_later_by) f cdv A outer s H E) rfl rfl rfl rfl
  have hps := passes_of (X := cxOf (L2.CX P w) P w K mg base N_f_later_by "later_by" (defScope s_f_later_by) f cdv A outer s H E) rfl
  exact sss_one (ss_ret (se_call c_plus (hr.mono (by first | decide | omega)) tk rfl (sa_cons (se_var (pv 0)) (sa_cons (se_tup (sa_cons (se_var (pv 1)) (sa_cons (se_int) (sa_nil)))) (sa_nil)))))
theorem cal_f_shifted (T : Tx K mg base) : Cal P w K mg base 4 "shifted" 3 true f_shifted := by
  have c_later_by := cal_f_later_by (P := P) (w := w) (base := base) T
  refine cal_of T.d_shifted (fun F => F.bindsN fun _ _ _ _ _ _ us hl => match us, hl with | [_, _, _], _ => rfl) fun {f fd} F => def_ok F sc_f_shifted rfl fun cdv A outer s H E hr => ?_
  have nd := sc_f_shifted.nd
  have hu := hr.units
  have hu5 := units5 hr
  have tk := takes_of (X := cxOf (L2.CX P w) P w K mg base N_f_shifted "shifted" (defScope s_f_shifted) f cdv A outer s H E) rfl rfl rfl rfl
  have hps := passes_of (X := cxOf (L2.CX P w) P w K mg base N_f_shifted "shifted" (defScope s_f_shifted) f cdv A outer s H E) rfl
  exact sss_one (ss_ret (se_callTy call_tuple_of ok_tup (by rfl) T.b_tuple (by decide +kernel) (sa_cons (se_lc rfl nd (own := [("at", 3), ("one", 4)]) (si_enum (by rfl) T.b_enumerate (sa_cons (se_var (pv 0)) (sa_nil))) (blkOk_by (N := N_f_shifted) (sc := defScope s_f_shifted) (by decide +kernel)) (fun _ _ _ _ _ => sg_tup rfl (sgs_cons (sg_name (i := 3) nd rfl (.inl rfl)) (sgs_cons (sg_name (i := 4) nd rfl (.inl rfl)) (sgs_nil)))) (fun _ _ _ _ _ => pts_yes) (fun _ _ _ _ _ => se_if (st_cmpA op_ge ok_ge (se_var (pv 3)) (se_op op_mulAll ok_mul (se_int) (se_ix (se_var (pv 1)) (se_int) (fun _ _ => rfl))) (nomark _)) (se_callV (k := 3) (i := 2) (calT (calT_cons (c_later_by.mono (by omega)).weak calT_nil)) (hr.mono (by first | decide | omega)) takes0 (fun _ _ _ _ _ h => h) rfl (by first | exact .inl rfl | exact .inr (.inl rfl) | exact .inr (.inr rfl)) (sa_cons (se_var (pv 4)) (sa_cons (se_ix (se_var (pv 1)) (se_int) (fun _ _ => rfl)) (sa_nil)))) (se_var (pv 4)))) (sa_nil))))
theorem cal_f_put (T : Tx K mg base) : Cal P w K mg base 1 "put" 3 true f_put := by
  refine cal_of T.d_put (fun F => F.bindsN fun _ _ _ _ _ _ us hl => match us, hl with | [_, _, _], _ => rfl) fun {f fd} F => def_ok F sc_f_put rfl fun cdv A outer s H E hr => ?_
  have nd := sc_f_put.nd
  have hu := hr.units
  have hu5 := units5 hr
  have tk := takes_of (X := cxOf (L2.CX P w) P w K mg base N_f_put "put" (defScope s_f_put) f cdv A outer s H E) rfl rfl rfl rfl
  have hps := passes_of (X := cxOf (L2.CX P w) P w K mg base N_f_put "put" (defScope s_f_put) f cdv A outer s H E) rfl
  exact sss_one (ss_ret (se_op op_addAll ok_add (se_op op_addAll ok_add (se_sl (se_var (pv 0)) (so_none) (so_some (se_var (pv 1)))) (se_tup (sa_cons (se_var (pv 2)) (sa_nil)))) (se_sl (se_var (pv 0)) (so_some (se_op op_addAll ok_add (se_var (pv 1)) (se_int))) (so_none))))
theorem cal_f_run_so (T : Tx K mg base) : Cal P w K mg base 5 "run_so" 3 true f_run_so := by
  have c_tests_of := cal_f_tests_of (P := P) (w := w) (base := base) T
  have c_shifted := cal_f_shifted (P := P) (w := w) (base := base) T
  have c_later_by := cal_f_later_by (P := P) (w := w) (base := base) T
  have c_is_less := cal_f_is_less (P := P) (w := w) (base := base) T
  have c_put := cal_f_put (P := P) (w := w) (base := base) T
  refine cal_of T.d_run_so (fun F => F.bindsN fun _ _ _ _ _ _ us hl => match us, hl with | [_, _, _], _ => rfl) fun {f fd} F => def_ok F sc_f_run_so rfl fun cdv A outer s H E hr => ?_
  have nd := sc_f_run_so.nd
  have hu := hr.units
  have hu5 := units5 hr
  have tk := takes_of (X := cxOf (L2.CX P w) P w K mg base N_f_run_so "run_so" (defScope s_f_run_so) f cdv A outer s H E) rfl rfl rfl rfl
  have hps := passes_of (X := cxOf (L2.CX P w) P w K mg base N_f_run_so "run_so" (defScope s_f_run_so) f cdv A outer s H E) rfl
  exact sss_cons (ss_set (i := 3) nd rfl (.inl rfl) (se_tup (sa_nil))) (sss_cons (ss_for hps rfl (si_seq (se_var (pv 1))) (sg_name (i := 4) nd rfl (.inl rfl)) (sss_cons (ss_if (st_cmpA (op_eqD hu) ok_eq (se_ix (se_var (pv 4)) (se_int) (fun _ _ => rfl)) (se_str) (nomark _)) (sss_one (ss_set (i := 2) nd rfl (.inl rfl) (se_call c_shifted (hr.mono (by first | decide | omega)) tk rfl (sa_cons (se_var (pv 2)) (sa_cons (se_var (pv 4)) (sa_cons (se_fn rfl T.g_later_by) (sa_nil))))))) (sss_nil)) (sss_one (ss_for hps rfl (si_seq (se_call c_tests_of (hr.mono (by first | decide | omega)) tk rfl (sa_cons (se_var (pv 0)) (sa_cons (se_var (pv 4)) (sa_nil))))) (sg_name (i := 5) nd rfl (.inl rfl)) (sss_cons (ss_set (i := 6) nd rfl (.inl rfl) (se_call c_is_less (hr.mono (by first | decide | omega)) tk rfl (sa_cons (se_ix (se_var (pv 2)) (se_ix (se_var (pv 5)) (se_int) (fun _ _ => rfl)) (fun _ _ => rfl)) (sa_cons (se_call c_later_by (hr.mono (by first | decide | omega)) tk rfl (sa_cons (se_ix (se_var (pv 2)) (se_ix (se_var (pv 5)) (se_int) (fun _ _ => rfl)) (fun _ _ => rfl)) (sa_cons (se_ix (se_var (pv 5)) (se_int) (fun _ _ => rfl)) (sa_nil)))) (sa_nil))))) (sss_cons (ss_set (i := 3) nd rfl (.inl rfl) (se_op op_addAll ok_add (se_var (pv 3)) (se_tup (sa_cons (se_var (pv 6)) (sa_nil))))) (sss_one (ss_if (st_val (se_var (pv 6))) (sss_one (ss_set (i := 2) nd rfl (.inl rfl) (se_call c_put (hr.mono (by first | decide | omega)) tk rfl (sa_cons (se_var (pv 2)) (sa_cons (se_ix (se_var (pv 5)) (se_int) (fun _ _ => rfl)) (sa_cons (se_call c_later_by (hr.mono (by first | decide | omega)) tk rfl (sa_cons (se_ix (se_var (pv 2)) (se_ix (se_var (pv 5)) (se_int) (fun _ _ => rfl)) (fun _ _ => rfl)) (sa_cons (se_ix (se_var (pv 5)) (se_int) (fun _ _ => rfl)) (sa_nil)))) (sa_nil))))))) (sss_nil))))))))) (sss_one (ss_ret (se_tup (sa_cons (se_var (pv 2)) (sa_cons (se_var (pv 3)) (sa_nil)))))))
theorem cal_f_behind (T : Tx K mg base) : Cal P w K mg base 6 "behind" 3 false f_behind := by
  have c_need_book := cal_f_need_book (P := P) (w := w) (base := base) T
  have c_need_script := cal_f_need_script (P := P) (w := w) (base := base) T
  have c_need_moments := cal_f_need_moments (P := P) (w := w) (base := base) T
  have c_run_so := cal_f_run_so (P := P) (w := w) (base := base) T
  refine cal_of T.d_behind (fun F => F.bindsN fun _ _ _ _ _ _ us hl => match us, hl with | [_, _, _], _ => rfl) fun {f fd} F => def_ok F sc_f_behind rfl fun cdv A outer s H E hr => ?_
  have nd := sc_f_behind.nd
  have hu := hr.units
  have hu5 := units5 hr
  have tk := takes_of (X := cxOf (L2.CX P w) P w K mg base N_f_behind "behind" (defScope s_f_behind) f cdv A outer s H E) rfl rfl rfl rfl
  have hps := passes_of (X := cxOf (L2.CX P w) P w K mg base N_f_behind "behind" (defScope s_f_behind) f cdv A outer s H E) rfl
  exact sss_cons (ss_drop (se_call c_need_book (hr.mono (by first | decide | omega)) tk rfl (sa_cons (se_var (pv 0)) (sa_nil)))) (sss_cons (ss_drop (se_call c_need_script (hr.mono (by first | decide | omega)) tk rfl (sa_cons (se_ix (se_var (pv 0)) (se_int) (fun _ _ => rfl)) (sa_cons (se_var (pv 1)) (sa_nil))))) (sss_cons (ss_drop (se_call c_need_moments (hr.mono (by first | decide | omega)) tk rfl (sa_cons (se_ix (se_var (pv 0)) (se_int) (fun _ _ => rfl)) (sa_cons (se_var (pv 2)) (sa_nil))))) (sss_one (ss_ret (se_ix (se_call c_run_so (hr.mono (by first | decide | omega)) tk rfl (sa_cons (se_ix (se_var (pv 0)) (se_int) (fun _ _ => rfl)) (sa_cons (se_var (pv 1)) (sa_cons (se_var (pv 2)) (sa_nil))))) (se_int) (fun _ _ => rfl))))))
theorem cal_f_word_of (T : Tx K mg base) : Cal P w K mg base 6 "word_of" 3 false f_word_of := by
  have c_need_book := cal_f_need_book (P := P) (w := w) (base := base) T
  have c_need_script := cal_f_need_script (P := P) (w := w) (base := base) T
  have c_need_moments := cal_f_need_moments (P := P) (w := w) (base := base) T
  have c_run_so := cal_f_run_so (P := P) (w := w) (base := base) T
  refine cal_of T.d_word_of (fun F => F.bindsN fun _ _ _ _ _ _ us hl => match us, hl with | [_, _, _], _ => rfl) fun {f fd} F => def_ok F sc_f_word_of rfl fun cdv A outer s H E hr => ?_
  have nd := sc_f_word_of.nd
  have hu := hr.units
  have hu5 := units5 hr
  have tk := takes_of (X := cxOf (L2.CX P w) P w K mg base N_f_word_of "word_of" (defScope s_f_word_of) f cdv A outer s H E) rfl rfl rfl rfl
  have hps := passes_of (X := cxOf (L2.CX P w) P w K mg base N_f_word_of "word_of" (defScope s_f_word_of) f cdv A outer s H E) rfl
  exact sss_cons (ss_drop (se_call c_need_book (hr.mono (by first | decide | omega)) tk rfl (sa_cons (se_var (pv 0)) (sa_nil)))) (sss_cons (ss_drop (se_call c_need_script (hr.mono (by first | decide | omega)) tk rfl (sa_cons (se_ix (se_var (pv 0)) (se_int) (fun _ _ => rfl)) (sa_cons (se_var (pv 1)) (sa_nil))))) (sss_cons (ss_drop (se_call c_need_moments (hr.mono (by first | decide | omega)) tk rfl (sa_cons (se_ix (se_var (pv 0)) (se_int) (fun _ _ => rfl)) (sa_cons (se_var (pv 2)) (sa_nil))))) (sss_one (ss_ret (se_ix (se_call c_run_so (hr.mono (by first | decide | omega)) tk rfl (sa_cons (se_ix (se_var (pv 0)) (se_int) (fun _ _ => rfl)) (sa_cons (se_var (pv 1)) (sa_cons (se_var (pv 2)) (sa_nil))))) (se_int) (fun _ _ => rfl))))))
theorem cal_f__law_jar (T : Tx K mg base) : Cal P w K mg base 1 "_law_jar" 2 true f__law_jar := by
  refine cal_of T.d__law_jar (fun F => F.bindsN fun _ _ _ _ _ _ us hl => match us, hl with | [_, _], _ => rfl) fun {f fd} F => def_ok F sc_f__law_jar rfl fun cdv A outer s H E hr => ?_
  have nd := sc_f__law_jar.nd
  have hu := hr.units
  have hu5 := units5 hr
  have tk := takes_of (X := cxOf (L2.CX P w) P w K mg base N_f__law_jar "_law_jar" (defScope s_f__law_jar) f cdv A outer s H E) rfl rfl rfl rfl
  have hps := passes_of (X := cxOf (L2.CX P w) P w K mg base N_f__law_jar "_law_jar" (defScope s_f__law_jar) f cdv A outer s H E) rfl
  exact sss_cons (ss_set (i := 2) nd rfl (.inl rfl) (se_if (st_cmpA op_lt ok_lt (se_var (pv 1)) (se_callB call_lenAll ok_len (by rfl) T.b_len PySem.boot_len (sa_cons (se_var (pv 0)) (sa_nil))) (nomark _)) (se_callB call_abs ok_abs (by rfl) T.b_abs (by decide +kernel) (sa_cons (se_callTy call_int1 ok_int (by rfl) T.b_int (by decide +kernel) (sa_cons (se_ix (se_var (pv 0)) (se_var (pv 1)) (fun _ _ => rfl)) (sa_nil))) (sa_nil))) (se_op op_addAll ok_add (se_op op_mulAll ok_mul (se_int) (se_var (pv 1))) (se_int)))) (sss_one (ss_ret (se_lst (sa_cons (se_if (st_cmpA op_ge ok_ge (se_var (pv 2)) (se_op op_pow ok_pow (se_int) (se_int)) (nomark _)) (se_var (pv 2)) (seF (se_int))) (sa_cons (se_op op_mod ok_mod (se_callTy call_int1 ok_int (by rfl) T.b_int (by decide +kernel) (sa_cons (se_op op_addAll ok_add (se_op op_addAll ok_add (se_op op_mod ok_mod (se_callTy call_int1 ok_int (by rfl) T.b_int (by decide +kernel) (sa_cons (se_var (pv 2)) (sa_nil))) (se_int)) (se_op op_mulAll ok_mul (se_int) (se_var (pv 1)))) (se_int)) (sa_nil))) (se_int)) (sa_nil))))))
theorem cal_f__law_dip (T : Tx K mg base) : Cal P w K mg base 1 "_law_dip" 2 false f__law_dip := by
  refine cal_of T.d__law_dip (fun F => F.bindsN fun _ _ _ _ _ _ us hl => match us, hl with | [_, _], _ => rfl) fun {f fd} F => def_ok F sc_f__law_dip rfl fun cdv A outer s H E hr => ?_
  have nd := sc_f__law_dip.nd
  have hu := hr.units
  have hu5 := units5 hr
  have tk := takes_of (X := cxOf (L2.CX P w) P w K mg base N_f__law_dip "_law_dip" (defScope s_f__law_dip) f cdv A outer s H E) rfl rfl rfl rfl
  have hps := passes_of (X := cxOf (L2.CX P w) P w K mg base N_f__law_dip "_law_dip" (defScope s_f__law_dip) f cdv A outer s H E) rfl
  exact sss_cons (ss_if (st_cmpA op_gt ok_gt (se_ix (se_var (pv 0)) (se_int) (fun _ _ => rfl)) (se_int) (nomark _)) (sss_cons (ss_set (i := 2) nd rfl (.inl rfl) (se_op op_mod ok_mod (se_callTy call_int1 ok_int (by rfl) T.b_int (by decide +kernel) (sa_cons (se_ix (se_var (pv 0)) (se_int) (fun _ _ => rfl)) (sa_nil))) (se_var (pv 1)))) (sss_cons (ss_asgG (se_op op_fdivAll ok_fdiv (se_callTy call_int1 ok_int (by rfl) T.b_int (by decide +kernel) (sa_cons (se_ix (se_var (pv 0)) (se_int) (fun _ _ => rfl)) (sa_nil))) (se_var (pv 1))) (sgt_sub (W := W0) (se_var (pv 0)) (se_int))) (sss_one (ss_ret (se_var (pv 2)))))) (sss_nil)) (sss_cons (ss_asgG (se_op op_mod ok_mod (se_callTy call_int1 ok_int (by rfl) T.b_int (by decide +kernel) (sa_cons (se_op op_addAll ok_add (se_op op_mulAll ok_mul (se_ix (se_var (pv 0)) (se_int) (fun _ _ => rfl)) (se_int)) (se_int)) (sa_nil))) (se_int)) (sgt_sub (W := W0) (se_var (pv 0)) (se_int))) (sss_cons (ss_set (i := 3) nd rfl (.inl rfl) (se_op op_mod ok_mod (se_op op_mulAll ok_mul (se_callTy call_int1 ok_int (by rfl) T.b_int (by decide +kernel) (sa_cons (se_ix (se_var (pv 0)) (se_int) (fun _ _ => rfl)) (sa_nil))) (se_op op_addAll ok_add (se_op op_fdivAll ok_fdiv (se_callTy call_int1 ok_int (by rfl) T.b_int (by decide +kernel) (sa_cons (se_ix (se_var (pv 0)) (se_int) (fun _ _ => rfl)) (sa_nil))) (se_int)) (se_int))) (se_int))) (sss_one (ss_ret (seF (se_op op_mod ok_mod (se_callTy call_int1 ok_int (by rfl) T.b_int (by decide +kernel) (sa_cons (se_op op_fdivAll ok_fdiv (se_callTy call_int1 ok_int (by rfl) T.b_int (by decide +kernel) (sa_cons (se_var (pv 3)) (sa_nil))) (se_int)) (sa_nil))) (se_var (pv 1))))))))
theorem cal_f__law_any (T : Tx K mg base) : Cal P w K mg base 2 "_law_any" 2 false f__law_any := by
  have c__law_dip := cal_f__law_dip (P := P) (w := w) (base := base) T
  refine cal_of T.d__law_any (fun F => F.bindsN fun _ _ _ _ _ _ us hl => match us, hl with | [_, _], _ => rfl) fun {f fd} F => def_ok F sc_f__law_any rfl fun cdv A outer s H E hr => ?_
  have nd := sc_f__law_any.nd
  have hu := hr.units
  have hu5 := units5 hr
  have tk := takes_of (X := cxOf (L2.CX P w) P w K mg base N_f__law_any "_law_any" (defScope s_f__law_any) f cdv A outer s H E) rfl rfl rfl rfl
  have hps := passes_of (X := cxOf (L2.CX P w) P w K mg base N_f__law_any "_law_any" (defScope s_f__law_any) f cdv A outer s H E) rfl
  exact sss_one (ss_ret (se_ix (se_var (pv 1)) (se_call c__law_dip (hr.mono (by first | decide | omega)) tk rfl (sa_cons (se_var (pv 0)) (sa_cons (se_callB call_lenAll ok_len (by rfl) T.b_len PySem.boot_len (sa_cons (se_var (pv 1)) (sa_nil))) (sa_nil)))) (fun _ _ => rfl)))
theorem cal_f__law_low (T : Tx K mg base) : Cal P w K mg base 1 "_law_low" 2 true f__law_low := by
  refine cal_of T.d__law_low (fun F => F.bindsN fun _ _ _ _ _ _ us hl => match us, hl with | [_, _], _ => rfl) fun {f fd} F => def_ok F sc_f__law_low rfl fun cdv A outer s H E hr => ?_
  have nd := sc_f__law_low.nd
  have hu := hr.units
  have hu5 := units5 hr
  have tk := takes_of (X := cxOf (L2.CX P w) P w K mg base N_f__law_low "_law_low" (defScope s_f__law_low) f cdv A outer s H E) rfl rfl rfl rfl
  have hps := passes_of (X := cxOf (L2.CX P w) P w K mg base N_f__law_low "_law_low" (defScope s_f__law_low) f cdv A outer s H E) rfl
  exact sss_cons (ss_par0 (i := 2) (j := 3) rfl nd rfl rfl (by decide) rfl rfl (sa_cons (se_callB call_abs ok_abs (by rfl) T.b_abs (by decide +kernel) (sa_cons (se_var (pv 0)) (sa_nil))) (sa_cons (se_var (pv 1)) (sa_nil))) rfl) (sss_cons (ss_while hps (st_cmpA op_gt ok_gt (se_var (pv 3)) (se_int) (nomark _)) (sss_one (ss_par0 (i := 2) (j := 3) rfl nd rfl rfl (by decide) rfl rfl (sa_cons (se_var (pv 3)) (sa_cons (se_op op_mod ok_mod (se_var (pv 2)) (se_var (pv 3))) (sa_nil))) rfl))) (sss_one (ss_ret (se_tup (sa_cons (se_op op_fdivAll ok_fdiv (se_var (pv 0)) (se_var (pv 2))) (sa_cons (se_op op_fdivAll ok_fdiv (se_var (pv 1)) (se_var (pv 2))) (sa_nil)))))))
theorem cal_f__law_plus (T : Tx K mg base) : Cal P w K mg base 2 "_law_plus" 2 true f__law_plus := by
  have c__law_low := cal_f__law_low (P := P) (w := w) (base := base) T
  refine cal_of T.d__law_plus (fun F => F.bindsN fun _ _ _ _ _ _ us hl => match us, hl with | [_, _], _ => rfl) fun {f fd} F => def_ok F sc_f__law_plus rfl fun cdv A outer s H E hr => ?_
  have nd := sc_f__law_plus.nd
  have hu := hr.units
  have hu5 := units5 hr
  have tk := takes_of (X := cxOf (L2.CX P w) P w K mg base N_f__law_plus "_law_plus" (defScope s_f__law_plus) f cdv A outer s H E) rfl rfl rfl rfl
  have hps := passes_of (X := cxOf (L2.CX P w) P w K mg base N_f__law_plus "_law_plus" (defScope s_f__law_plus) f cdv A outer s H E) rfl
  exact sss_one (ss_ret (se_call c__law_low (hr.mono (by first | decide | omega)) tk rfl (sa_cons (se_op op_addAll ok_add (se_op op_mulAll ok_mul (se_ix (se_var (pv 0)) (se_int) (fun _ _ => rfl)) (se_ix (se_var (pv 1)) (se_int) (fun _ _ => rfl))) (se_op op_mulAll ok_mul (se_ix (se_var (pv 1)) (se_int) (fun _ _ => rfl)) (se_ix (se_var (pv 0)) (se_int) (fun _ _ => rfl)))) (sa_cons (se_op op_mulAll ok_mul (se_ix (se_var (pv 0)) (se_int) (fun _ _ => rfl)) (se_ix (se_var (pv 1)) (se_int) (fun _ _ => rfl))) (sa_nil)))))
theorem cal_f__law_below (T : Tx K mg base) : Cal P w K mg base 1 "_law_below" 2 true f__law_below := by
  refine cal_of T.d__law_below (fun F => F.bindsN fun _ _ _ _ _ _ us hl => match us, hl with | [_, _], _ => rfl) fun {f fd} F => def_ok F sc_f__law_below rfl fun cdv A outer s H E hr => ?_
  have nd := sc_f__law_below.nd
  have hu := hr.units
  have hu5 := units5 hr
  have tk := takes_of (X := cxOf (L2.CX P w) P w K mg base N_f__law_below "_law_below" (defScope s_f__law_below) f cdv A outer s H E) rfl rfl rfl rfl
  have hps := passes_of (X := cxOf (L2.CX P w) P w K mg base N_f__law_below "_law_below" (defScope s_f__law_below) f cdv A outer s H E) rfl
  exact sss_one (ss_ret (se_cmp op_lt ok_lt (se_op op_mulAll ok_mul (se_ix (se_var (pv 0)) (se_int) (fun _ _ => rfl)) (se_ix (se_var (pv 1)) (se_int) (fun _ _ => rfl))) (se_op op_mulAll ok_mul (se_ix (se_var (pv 1)) (se_int) (fun _ _ => rfl)) (se_ix (se_var (pv 0)) (se_int) (fun _ _ => rfl))) (nomark _)))
theorem cal_f__law_moments (T : Tx K mg base) : Cal P w K mg base 3 "_law_moments" 2 false f__law_moments := by
  have c__law_any := cal_f__law_any (P := P) (w := w) (base := base) T
  have c__law_dip := cal_f__law_dip (P := P) (w := w) (base := base) T
  have c__law_low := cal_f__law_low (P := P) (w := w) (base := base) T
  refine cal_of T.d__law_moments (fun F => F.bindsN fun _ _ _ _ _ _ us hl => match us, hl with | [_, _], _ => rfl) fun {f fd} F => def_okC F sc_f__law_moments rfl fun cdv A outer s H E hr => ?_
  have nd := sc_f__law_moments.nd
  have hu := hr.units
  have hu5 := units5 hr
  have tk := takes_of (X := cxOf (L2.CX P w) P w K mg base N_f__law_moments "_law_moments" (defScope s_f__law_moments) f cdv A outer s H E) rfl rfl rfl rfl
  have hps := passes_of (X := cxOf (L2.CX P w) P w K mg base N_f__law_moments "_law_moments" (defScope s_f__law_moments) f cdv A outer s H E) rfl
  exact sss_cons (ss_par3 (i := 2) (j := 3) (l := 4) rfl nd rfl rfl rfl (by decide) (by decide) (by decide) rfl rfl rfl (sp_cel (se_lst (sa_nil)) (sp_cons (se_op op_sub ok_sub (se_call c__law_dip (hr.mono (by first | decide | omega)) tk rfl (sa_cons (se_var (pv 0)) (sa_cons (se_int) (sa_nil)))) (se_int)) (sp_cons (se_call c__law_any (hr.mono (by first | decide | omega)) tk rfl (sa_cons (se_var (pv 0)) (sa_cons (se_lst (sa_cons (se_int) (sa_cons (se_int) (sa_cons (se_int) (sa_cons (se_int) (sa_nil)))))) (sa_nil)))) (sp_nil)))) rfl) (sss_cons (ss_for hps rfl (si_range1 (by rfl) T.b_range (sa_cons (se_op op_mulAll ok_mul (se_int) (se_var (pv 1))) (sa_nil))) (sg_name (i := 5) nd rfl (.inl rfl)) (sss_cons (ss_drop (se_bm PySem.F.plainAttrs_list PySem.F.slot_list_append PySem.F.type_list_append mt_append ok_append (se_var (pv 2)) (sa_cons (se_call c__law_low (hr.mono (by first | decide | omega)) tk rfl (sa_cons (se_var (pv 3)) (sa_cons (se_var (pv 4)) (sa_nil)))) (sa_nil)))) (sss_one (ss_set (i := 3) nd rfl (.inl rfl) (se_op op_addAll ok_add (se_var (pv 3)) (se_call c__law_any (hr.mono (by first | decide | omega)) tk rfl (sa_cons (se_var (pv 0)) (sa_cons (se_lst (sa_cons (se_int) (sa_cons (se_int) (sa_cons (se_int) (sa_cons (se_int) (sa_cons (se_int) (sa_cons (se_int) (sa_cons (se_un un_neg ok_neg (se_int)) (sa_nil))))))))) (sa_nil))))))))) (sss_one (ss_ret (seF (se_callTy call_tuple_of ok_tup (by rfl) T.b_tuple (by decide +kernel) (sa_cons (se_var (pv 2)) (sa_nil)))))))
theorem cal_f__law_gap (T : Tx K mg base) : Cal P w K mg base 3 "_law_gap" 3 true f__law_gap := by
  have c__law_dip := cal_f__law_dip (P := P) (w := w) (base := base) T
  have c__law_plus := cal_f__law_plus (P := P) (w := w) (base := base) T
  have c__law_any := cal_f__law_any (P := P) (w := w) (base := base) T
  refine cal_of T.d__law_gap (fun F => F.bindsN fun _ _ _ _ _ _ us hl => match us, hl with | [_, _, _], _ => rfl) fun {f fd} F => def_ok F sc_f__law_gap rfl fun cdv A outer s H E hr => ?_
  have nd := sc_f__law_gap.nd
  have hu := hr.units
  have hu5 := units5 hr
  have tk := takes_of (X := cxOf (L2.CX P w) P w K mg base N_f__law_gap "_law_gap" (defScope s_f__law_gap) f cdv A outer s H E) rfl rfl rfl rfl
  have hps := passes_of (X := cxOf (L2.CX P w) P w K mg base N_f__law_gap "_law_gap" (defScope s_f__law_gap) f cdv A outer s H E) rfl
  exact sss_cons (ss_set (i := 3) nd rfl (.inl rfl) (se_call c__law_dip (hr.mono (by first | decide | omega)) tk rfl (sa_cons (se_var (pv 0)) (sa_cons (se_op op_mulAll ok_mul (se_int) (se_var (pv 1))) (sa_nil))))) (sss_cons (ss_set (i := 4) nd rfl (.inl rfl) (se_op op_mod ok_mod (se_op op_addAll ok_add (se_op op_addAll ok_add (se_var (pv 3)) (se_int)) (se_call c__law_dip (hr.mono (by first | decide | omega)) tk rfl (sa_cons (se_var (pv 0)) (sa_cons (se_op op_sub ok_sub (se_op op_mulAll ok_mul (se_int) (se_var (pv 1))) (se_int)) (sa_nil))))) (se_op op_mulAll ok_mul (se_int) (se_var (pv 1))))) (sss_cons (ss_set (i := 5) nd rfl (.inl rfl) (se_call c__law_plus (hr.mono (by first | decide | omega)) tk rfl (sa_cons (se_ix (se_var (pv 2)) (se_var (pv 4)) (fun _ _ => rfl)) (sa_cons (se_tup (sa_cons (se_un un_neg ok_neg (se_ix (se_ix (se_var (pv 2)) (se_var (pv 3)) (fun _ _ => rfl)) (se_int) (fun _ _ => rfl))) (sa_cons (se_ix (se_ix (se_var (pv 2)) (se_var (pv 3)) (fun _ _ => rfl)) (se_int) (fun _ _ => rfl)) (sa_nil)))) (sa_nil))))) (sss_cons (ss_set (i := 6) nd rfl (.inl rfl) (se_op op_sub ok_sub (se_op op_fdivAll ok_fdiv (se_ix (se_var (pv 5)) (se_int) (fun _ _ => rfl)) (se_ix (se_var (pv 5)) (se_int) (fun _ _ => rfl))) (se_call c__law_any (hr.mono (by first | decide | omega)) tk rfl (sa_cons (se_var (pv 0)) (sa_cons (se_lst (sa_cons (se_int) (sa_cons (se_int) (sa_cons (se_int) (sa_cons (se_int) (sa_nil)))))) (sa_nil)))))) (sss_one (ss_ret (se_tup (sa_cons (se_var (pv 3)) (sa_cons (se_var (pv 4)) (sa_cons (se_if (st_cmpA op_gt ok_gt (se_call c__law_dip (hr.mono (by first | decide | omega)) tk rfl (sa_cons (se_var (pv 0)) (sa_cons (se_int) (sa_nil)))) (se_int) (nomark _)) (se_var (pv 6)) (seF (se_op op_sub ok_sub (se_call c__law_dip (hr.mono (by first | decide | omega)) tk rfl (sa_cons (se_var (pv 0)) (sa_cons (se_int) (sa_nil)))) (se_int)))) (sa_nil))))))))))
theorem cal_f__law_book (T : Tx K mg base) : Cal P w K mg base 4 "_law_book" 3 true f__law_book := by
  have c__law_moments := cal_f__law_moments (P := P) (w := w) (base := base) T
  have c__law_gap := cal_f__law_gap (P := P) (w := w) (base := base) T
  have c__law_dip := cal_f__law_dip (P := P) (w := w) (base := base) T
  refine cal_of T.d__law_book (fun F => F.bindsN fun _ _ _ _ _ _ us hl => match us, hl with | [_, _, _], _ => rfl) fun {f fd} F => def_ok F sc_f__law_book rfl fun cdv A outer s H E hr => ?_
  have nd := sc_f__law_book.nd
  have hu := hr.units
  have hu5 := units5 hr
  have tk := takes_of (X := cxOf (L2.CX P w) P w K mg base N_f__law_book "_law_book" (defScope s_f__law_book) f cdv A outer s H E) rfl rfl rfl rfl
  have hps := passes_of (X := cxOf (L2.CX P w) P w K mg base N_f__law_book "_law_book" (defScope s_f__law_book) f cdv A outer s H E) rfl
  exact sss_cons (ss_set (i := 3) nd rfl (.inr rfl) (se_call c__law_moments (hr.mono (by first | decide | omega)) tk rfl (sa_cons (se_var (pv 0)) (sa_cons (se_var (pv 1)) (sa_nil))))) (sss_one (ss_ret (se_tup (sa_cons (se_var (pv 1)) (sa_cons (se_callTy call_tuple_of ok_tup (by rfl) T.b_tuple (by decide +kernel) (sa_cons (se_lc rfl nd (own := [("turn", 4)]) (si_range1 (by rfl) T.b_range (sa_cons (se_call c__law_dip (hr.mono (by first | decide | omega)) tk rfl (sa_cons (se_var (pv 0)) (sa_cons (se_op op_addAll ok_add (se_var (pv 2)) (se_int)) (sa_nil)))) (sa_nil))) (blkOk_by (N := N_f__law_book) (sc := defScope s_f__law_book) (by decide +kernel)) (fun _ _ _ _ _ => sg_name (i := 4) nd rfl (.inl rfl)) (fun _ _ _ _ _ => pts_yes) (fun _ _ _ _ _ => se_call c__law_gap (hr.mono (by first | decide | omega)) takes0 rfl (sa_cons (se_var (pv 0)) (sa_cons (se_var (pv 1)) (sa_cons (se_var (pv 3)) (sa_nil)))))) (sa_nil))) (sa_nil))))))
theorem cal_f__law_step (T : Tx K mg base) : Cal P w K mg base 3 "_law_step" 2 true f__law_step := by
  have c__law_dip := cal_f__law_dip (P := P) (w := w) (base := base) T
  have c__law_any := cal_f__law_any (P := P) (w := w) (base := base) T
  refine cal_of T.d__law_step (fun F => F.bindsN fun _ _ _ _ _ _ us hl => match us, hl with | [_, _], _ => rfl) fun {f fd} F => def_ok F sc_f__law_step rfl fun cdv A outer s H E hr => ?_
  have nd := sc_f__law_step.nd
  have hu := hr.units
  have hu5 := units5 hr
  have tk := takes_of (X := cxOf (L2.CX P w) P w K mg base N_f__law_step "_law_step" (defScope s_f__law_step) f cdv A outer s H E) rfl rfl rfl rfl
  have hps := passes_of (X := cxOf (L2.CX P w) P w K mg base N_f__law_step "_law_step" (defScope s_f__law_step) f cdv A outer s H E) rfl
  exact sss_cons (ss_set (i := 2) nd rfl (.inl rfl) (se_call c__law_dip (hr.mono (by first | decide | omega)) tk rfl (sa_cons (se_var (pv 0)) (sa_cons (se_int) (sa_nil))))) (sss_cons (ss_if (st_cmpA (op_eqD hu) ok_eq (se_var (pv 2)) (se_int) (nomark _)) (sss_one (ss_ret (se_tup (sa_cons (se_str) (sa_cons (se_call c__law_dip (hr.mono (by first | decide | omega)) tk rfl (sa_cons (se_var (pv 0)) (sa_cons (se_var (pv 1)) (sa_nil)))) (sa_cons (se_op op_sub ok_sub (se_call c__law_dip (hr.mono (by first | decide | omega)) tk rfl (sa_cons (se_var (pv 0)) (sa_cons (se_int) (sa_nil)))) (se_int)) (sa_nil))))))) (sss_nil)) (sss_one (ss_ret (se_tup (sa_cons (se_call c__law_any (hr.mono (by first | decide | omega)) tk rfl (sa_cons (se_var (pv 0)) (sa_cons (se_lst (sa_cons (se_str) (sa_cons (se_str) (sa_cons (se_str) (sa_cons (se_str) (sa_cons (se_str) (sa_nil))))))) (sa_nil)))) (sa_cons (se_call c__law_any (hr.mono (by first | decide | omega)) tk rfl (sa_cons (se_var (pv 0)) (sa_cons (se_lst (sa_cons (se_int) (sa_cons (se_int) (sa_cons (se_int) (sa_cons (se_int) (sa_cons (se_int) (sa_nil))))))) (sa_nil)))) (sa_nil)))))))
theorem cal_f__law_steps (T : Tx K mg base) : Cal P w K mg base 4 "_law_steps" 3 true f__law_steps := by
  have c__law_step := cal_f__law_step (P := P) (w := w) (base := base) T
  have c__law_dip := cal_f__law_dip (P := P) (w := w) (base := base) T
  refine cal_of T.d__law_steps (fun F => F.bindsN fun _ _ _ _ _ _ us hl => match us, hl with | [_, _, _], _ => rfl) fun {f fd} F => def_ok F sc_f__law_steps rfl fun cdv A outer s H E hr => ?_
  have nd := sc_f__law_steps.nd
  have hu := hr.units
  have hu5 := units5 hr
  have tk := takes_of (X := cxOf (L2.CX P w) P w K mg base N_f__law_steps "_law_steps" (defScope s_f__law_steps) f cdv A outer s H E) rfl rfl rfl rfl
  have hps := passes_of (X := cxOf (L2.CX P w) P w K mg base N_f__law_steps "_law_steps" (defScope s_f__law_steps) f cdv A outer s H E) rfl
  exact sss_one (ss_ret (se_callTy call_tuple_of ok_tup (by rfl) T.b_tuple (by decide +kernel) (sa_cons (se_lc rfl nd (own := [("turn", 3)]) (si_range1 (by rfl) T.b_range (sa_cons (se_call c__law_dip (hr.mono (by first | decide | omega)) tk rfl (sa_cons (se_var (pv 0)) (sa_cons (se_op op_addAll ok_add (se_var (pv 2)) (se_int)) (sa_nil)))) (sa_nil))) (blkOk_by (N := N_f__law_steps) (sc := defScope s_f__law_steps) (by decide +kernel)) (fun _ _ _ _ _ => sg_name (i := 3) nd rfl (.inl rfl)) (fun _ _ _ _ _ => pts_yes) (fun _ _ _ _ _ => se_call c__law_step (hr.mono (by first | decide | omega)) takes0 rfl (sa_cons (se_var (pv 0)) (sa_cons (se_var (pv 1)) (sa_nil))))) (sa_nil))))
theorem cal_f__law_more (T : Tx K mg base) : Cal P w K mg base 3 "_law_more" 2 true f__law_more := by
  have c__law_plus := cal_f__law_plus (P := P) (w := w) (base := base) T
  refine cal_of T.d__law_more (fun F => F.bindsN fun _ _ _ _ _ _ us hl => match us, hl with | [_, _], _ => rfl) fun {f fd} F => def_ok F sc_f__law_more rfl fun cdv A outer s H E hr => ?_
  have nd := sc_f__law_more.nd
  have hu := hr.units
  have hu5 := units5 hr
  have tk := takes_of (X := cxOf (L2.CX P w) P w K mg base N_f__law_more "_law_more" (defScope s_f__law_more) f cdv A outer s H E) rfl rfl rfl rfl
  have hps := passes_of (X := cxOf (L2.CX P w) P w K mg base N_f__law_more "_law_more" (defScope s_f__law_more) f cdv A outer s H E) rfl
  exact sss_one (ss_ret (se_call c__law_plus (hr.mono (by first | decide | omega)) tk rfl (sa_cons (se_var (pv 0)) (sa_cons (se_tup (sa_cons (se_var (pv 1)) (sa_cons (se_int) (sa_nil)))) (sa_nil)))))
theorem cal_f__law_test (T : Tx K mg base) : Cal P w K mg base 4 "_law_test" 5 true f__law_test := by
  have c__law_more := cal_f__law_more (P := P) (w := w) (base := base) T
  refine cal_of T.d__law_test (fun F => F.bindsN fun _ _ _ _ _ _ us hl => match us, hl with | [_, _, _, _, _], _ => rfl) fun {f fd} F => def_ok F sc_f__law_test rfl fun cdv A outer s H E hr => ?_
  have nd := sc_f__law_test.nd
  have hu := hr.units
  have hu5 := units5 hr
  have tk := takes_of (X := cxOf (L2.CX P w) P w K mg base N_f__law_test "_law_test" (defScope s_f__law_test) f cdv A outer s H E) rfl rfl rfl rfl
  have hps := passes_of (X := cxOf (L2.CX P w) P w K mg base N_f__law_test "_law_test" (defScope s_f__law_test) f cdv A outer s H E) rfl
  exact sss_cons (ss_if (SW.st (sw_and (st_cmpA (op_eqD hu) ok_eq (se_var (pv 0)) (se_str) (nomark _)) (sw_and1 (st_cmpA op_gt ok_gt (se_var (pv 3)) (se_int) (nomark _))))) (sss_cons (ss_set (i := 5) nd rfl (.inl rfl) (se_call c__law_more (hr.mono (by first | decide | omega)) tk rfl (sa_cons (se_ix (se_var (pv 4)) (se_op op_sub ok_sub (se_op op_mulAll ok_mul (se_int) (se_var (pv 3))) (se_int)) (fun _ _ => rfl)) (sa_cons (se_var (pv 1)) (sa_nil))))) (sss_one (ss_ret (se_tup (sa_cons (se_var (pv 5)) (sa_cons (se_ix (se_var (pv 4)) (se_op op_mulAll ok_mul (se_int) (se_var (pv 3))) (fun _ _ => rfl)) (sa_cons (se_tup (sa_cons (se_op op_mulAll ok_mul (se_int) (se_var (pv 3))) (sa_cons (se_var (pv 5)) (sa_nil)))) (sa_nil)))))))) (sss_nil)) (sss_cons (ss_if (SW.st (sw_and (st_cmpA (op_eqD hu) ok_eq (se_var (pv 0)) (se_str) (nomark _)) (sw_and1 (st_cmpA op_lt ok_lt (se_var (pv 3)) (se_op op_sub ok_sub (se_var (pv 2)) (se_int)) (nomark _))))) (sss_cons (ss_set (i := 6) nd rfl (.inl rfl) (se_ix (se_var (pv 4)) (se_op op_addAll ok_add (se_op op_mulAll ok_mul (se_int) (se_var (pv 3))) (se_int)) (fun _ _ => rfl))) (sss_one (ss_ret (se_tup (sa_cons (se_call c__law_more (hr.mono (by first | decide | omega)) tk rfl (sa_cons (se_ix (se_var (pv 4)) (se_op op_addAll ok_add (se_op op_mulAll ok_mul (se_int) (se_var (pv 3))) (se_int)) (fun _ _ => rfl)) (sa_cons (se_var (pv 1)) (sa_nil)))) (sa_cons (se_var (pv 6)) (sa_cons (se_tup (sa_cons (se_op op_addAll ok_add (se_op op_mulAll ok_mul (se_int) (se_var (pv 3))) (se_int)) (sa_cons (se_call c__law_more (hr.mono (by first | decide | omega)) tk rfl (sa_cons (se_var (pv 6)) (sa_cons (se_un un_neg ok_neg (se_var (pv 1))) (sa_nil)))) (sa_nil)))) (sa_nil)))))))) (sss_nil)) (sss_cons (ss_if (st_cmpA (op_eqD hu) ok_eq (se_var (pv 0)) (se_str) (nomark _)) (sss_cons (ss_set (i := 5) nd rfl (.inl rfl) (se_call c__law_more (hr.mono (by first | decide | omega)) tk rfl (sa_cons (se_ix (se_var (pv 4)) (se_op op_mulAll ok_mul (se_int) (se_var (pv 3))) (fun _ _ => rfl)) (sa_cons (se_var (pv 1)) (sa_nil))))) (sss_one (ss_ret (se_tup (sa_cons (se_var (pv 5)) (sa_cons (se_ix (se_var (pv 4)) (se_op op_addAll ok_add (se_op op_mulAll ok_mul (se_int) (se_var (pv 3))) (se_int)) (fun _ _ => rfl)) (sa_cons (se_tup (sa_cons (se_op op_addAll ok_add (se_op op_mulAll ok_mul (se_int) (se_var (pv 3))) (se_int)) (sa_cons (se_var (pv 5)) (sa_nil)))) (sa_nil)))))))) (sss_nil)) (sss_cons (ss_if (st_cmpA (op_eqD hu) ok_eq (se_var (pv 0)) (se_str) (nomark _)) (sss_cons (ss_set (i := 5) nd rfl (.inl rfl) (se_call c__law_more (hr.mono (by first | decide | omega)) tk rfl (sa_cons (se_ix (se_var (pv 4)) (se_op op_mulAll ok_mul (se_int) (se_var (pv 3))) (fun _ _ => rfl)) (sa_cons (se_var (pv 1)) (sa_nil))))) (sss_one (ss_ret (se_tup (sa_cons (se_ix (se_var (pv 4)) (se_op op_addAll ok_add (se_op op_mulAll ok_mul (se_int) (se_var (pv 3))) (se_int)) (fun _ _ => rfl)) (sa_cons (se_var (pv 5)) (sa_cons (se_tup (sa_cons (se_op op_addAll ok_add (se_op op_mulAll ok_mul (se_int) (se_var (pv 3))) (se_int)) (sa_cons (se_var (pv 5)) (sa_nil)))) (sa_nil)))))))) (sss_nil)) (sss_one (ss_ret (se_tup (sa_cons (se_non) (sa_cons (se_non) (sa_cons (se_non) (sa_nil))))))))))
theorem cal_f__law_run (T : Tx K mg base) : Cal P w K mg base 5 "_law_run" 3 false f__law_run := by
  have c__law_test := cal_f__law_test (P := P) (w := w) (base := base) T
  have c__law_more := cal_f__law_more (P := P) (w := w) (base := base) T
  have c__law_below := cal_f__law_below (P := P) (w := w) (base := base) T
  refine cal_of T.d__law_run (fun F => F.bindsN fun _ _ _ _ _ _ us hl => match us, hl with | [_, _, _], _ => rfl) fun {f fd} F => def_okC F sc_f__law_run rfl fun cdv A outer s H E hr => ?_
  have nd := sc_f__law_run.nd
  have hu := hr.units
  have hu5 := units5 hr
  have tk := takes_of (X := cxOf (L2.CX P w) P w K mg base N_f__law_run "_law_run" (defScope s_f__law_run) f cdv A outer s H E) rfl rfl rfl rfl
  have hps := passes_of (X := cxOf (L2.CX P w) P w K mg base N_f__law_run "_law_run" (defScope s_f__law_run) f cdv A outer s H E) rfl
  exact sss_cons (ss_par (i := 3) (j := 4) rfl nd rfl rfl (by decide) rfl rfl (sp_cel (se_callTy call_list_of ok_lst (by rfl) T.b_list (by decide +kernel) (sa_cons (se_var (pv 2)) (sa_nil))) (sp_cons (se_tup (sa_nil)) (sp_nil))) rfl) (sss_cons (ss_for hps rfl (si_seq (se_var (pv 1))) (sg_name (i := 5) nd rfl (.inl rfl)) (sss_cons (ss_par0 (i := 6) (j := 7) rfl nd rfl rfl (by decide) rfl rfl (sa_cons (se_ix (se_var (pv 5)) (se_int) (fun _ _ => rfl)) (sa_cons (se_ix (se_var (pv 5)) (se_un un_neg ok_neg (se_int)) (fun _ _ => rfl)) (sa_nil))) rfl) (sss_cons (ss_for hps rfl (si_range1 (by rfl) T.b_range (sa_cons (se_op op_mulAll ok_mul (se_int) (se_var (pv 0))) (sa_nil))) (sg_name (i := 8) nd rfl (.inl rfl)) (sss_one (ss_if (SW.st (sw_and (st_cmpA (op_eqD hu) ok_eq (se_var (pv 6)) (se_str) (nomark _)) (sw_and1 (st_cmpA op_ge ok_ge (se_var (pv 8)) (se_op op_mulAll ok_mul (se_int) (se_ix (se_var (pv 5)) (se_int) (fun _ _ => rfl))) (nomark _))))) (sss_one (ss_asgG (se_call c__law_more (hr.mono (by first | decide | omega)) tk rfl (sa_cons (se_ix (se_var (pv 3)) (se_var (pv 8)) (fun _ _ => rfl)) (sa_cons (se_var (pv 7)) (sa_nil)))) (sgt_sub (W := W0) (se_var (pv 3)) (se_var (pv 8))))) (sss_nil)))) (sss_one (ss_for hps rfl (si_range1 (by rfl) T.b_range (sa_cons (se_var (pv 0)) (sa_nil))) (sg_name (i := 9) nd rfl (.inl rfl)) (sss_cons (ss_asgG (se_call c__law_test (hr.mono (by first | decide | omega)) tk rfl (sa_cons (se_var (pv 6)) (sa_cons (se_var (pv 7)) (sa_cons (se_var (pv 0)) (sa_cons (se_var (pv 9)) (sa_cons (se_var (pv 3)) (sa_nil))))))) (sgt_tup rfl (sgts_cons (sgt_name (i := 10) nd rfl (.inl rfl)) (sgts_cons (sgt_name (i := 11) nd rfl (.inl rfl)) (sgts_cons (sgt_name (i := 12) nd rfl (.inl rfl)) (sgts_nil)))))) (sss_one (ss_if (st_cmpA op_notN ok_notN (se_var (pv 10)) (se_non) (nomark _)) (sss_cons (ss_set (i := 13) nd rfl (.inl rfl) (se_call c__law_below (hr.mono (by first | decide | omega)) tk rfl (sa_cons (se_var (pv 11)) (sa_cons (se_var (pv 10)) (sa_nil))))) (sss_cons (ss_set (i := 4) nd rfl (.inl rfl) (se_op op_addAll ok_add (se_var (pv 4)) (se_tup (sa_cons (se_var (pv 13)) (sa_nil))))) (sss_one (ss_if (st_val (se_var (pv 13))) (sss_one (ss_asgG (se_ix (se_var (pv 12)) (se_int) (fun _ _ => rfl)) (sgt_sub (W := W0) (se_var (pv 3)) (se_ix (se_var (pv 12)) (se_int) (fun _ _ => rfl))))) (sss_nil))))) (sss_nil))))))))) (sss_one (ss_ret (seF (se_tup (sa_cons (se_callTy call_tuple_of ok_tup (by rfl) T.b_tuple (by decide +kernel) (sa_cons (se_var (pv 3)) (sa_nil))) (sa_cons (se_var (pv 4)) (sa_nil))))))))
theorem cal_f__law_keeps (T : Tx K mg base) : Cal P w K mg base 4 "_law_keeps" 2 true f__law_keeps := by
  have c__law_below := cal_f__law_below (P := P) (w := w) (base := base) T
  have c__law_more := cal_f__law_more (P := P) (w := w) (base := base) T
  refine cal_of T.d__law_keeps (fun F => F.bindsN fun _ _ _ _ _ _ us hl => match us, hl with | [_, _], _ => rfl) fun {f fd} F => def_ok F sc_f__law_keeps rfl fun cdv A outer s H E hr => ?_
  have nd := sc_f__law_keeps.nd
  have hu := hr.units
  have hu5 := units5 hr
  have tk := takes_of (X := cxOf (L2.CX P w) P w K mg base N_f__law_keeps "_law_keeps" (defScope s_f__law_keeps) f cdv A outer s H E) rfl rfl rfl rfl
  have hps := passes_of (X := cxOf (L2.CX P w) P w K mg base N_f__law_keeps "_law_keeps" (defScope s_f__law_keeps) f cdv A outer s H E) rfl
  exact sss_cons (ss_for hps rfl (si_seq (se_var (pv 0))) (sg_tup rfl (sgs_cons (sg_name (i := 2) nd rfl (.inl rfl)) (sgs_cons (sg_name (i := 3) nd rfl (.inl rfl)) (sgs_cons (sg_name (i := 4) nd rfl (.inl rfl)) (sgs_nil))))) (sss_one (ss_if (st_val (se_call c__law_below (hr.mono (by first | decide | omega)) tk rfl (sa_cons (se_ix (se_var (pv 1)) (se_var (pv 3)) (fun _ _ => rfl)) (sa_cons (se_call c__law_more (hr.mono (by first | decide | omega)) tk rfl (sa_cons (se_ix (se_var (pv 1)) (se_var (pv 2)) (fun _ _ => rfl)) (sa_cons (se_var (pv 4)) (sa_nil)))) (sa_nil))))) (sss_one (ss_ret (se_bl))) (sss_nil)))) (sss_one (ss_ret (se_bl)))
theorem cal_f__law_refused (T : Tx K mg base) : Cal P w K mg base 9 "_law_refused" 3 true f__law_refused := by
  have c_behind := cal_f_behind (P := P) (w := w) (base := base) T
  have c_word_of := cal_f_word_of (P := P) (w := w) (base := base) T
  have c_keeps := cal_f_keeps (P := P) (w := w) (base := base) T
  obtain ⟨f, fd, c, Pt, F, hm, LL⟩ := T.l__law_refused
  refine ⟨f, fd, P_f__law_refused, ?_, hm, F.kp, (fun F => F.bindsN fun _ _ _ _ _ _ us hl => match us, hl with | [_, _, _], _ => rfl) F⟩
  refine def_okL F LL sc_f__law_refused rfl fun cdv A outer s H E LA hr => ?_
  have nd := sc_f__law_refused.nd
  have hu := hr.units
  have hu5 := units5 hr
  have tk := takes_of (X := cxOf (L2.CX P w) P w K mg base N_f__law_refused "_law_refused" (defScope s_f__law_refused) f cdv A outer s H E) rfl rfl rfl rfl
  have hps := passes_of (X := cxOf (L2.CX P w) P w K mg base N_f__law_refused "_law_refused" (defScope s_f__law_refused) f cdv A outer s H E) rfl
  exact sss_cons (ss_for hps rfl (si_seq (se_lst (sa_cons (se_non) (sa_cons (se_tup (sa_nil)) (sa_cons (se_sl (se_var (pv 2)) (so_some (se_int)) (so_none)) (sa_cons (se_callTy call_list_of ok_lst (by rfl) T.b_list (by decide +kernel) (sa_cons (se_var (pv 2)) (sa_nil))) (sa_cons (se_op op_addAll ok_add (se_sl (se_var (pv 2)) (so_none) (so_some (se_un un_neg ok_neg (se_int)))) (se_tup (sa_cons (se_tup (sa_cons (se_int) (sa_cons (se_int) (sa_nil)))) (sa_nil)))) (sa_cons (se_op op_mulAll ok_mul (se_var (pv 2)) (se_int)) (sa_nil))))))))) (sg_name (i := 3) nd rfl (.inr rfl)) (sss_cons (ss_for hps rfl (si_seq (se_lst (sa_cons (se_fn rfl T.g_behind) (sa_cons (se_fn rfl T.g_word_of) (sa_nil))))) (sg_name (i := 4) nd rfl (.inr rfl)) (sss_one (ss_if (st_cmpA (op_neD hu) ok_ne (se_lamF (k := 6) (fr := false) (T.c__law_word) T.d__law_word (fun F => F.bindsN fun _ _ _ _ _ _ us hl => match us, hl with | [_], _ => rfl) sc__law_word rfl (.inl rfl) (by first | rfl | decide +kernel) (fun g cdv => giv__law_word T) LA rfl (hr.mono (by first | decide | omega)) (LamX.lamS_by (sc := defScope s_f__law_refused) (by decide +kernel)) rfl (fun _ _ _ _ _ => rfl) (fun A2 outer2 s2 H2 E2 f2 c2 hr => have hu := hr.units; have hu5 := units5 hr; have tk := takes_of (X := LamX.lamCx _ A2 outer2 s2 H2 E2 _ f2 c2) rfl rfl rfl rfl; se_callV (k := 6) (i := 4) (calT (calT_cons (c_behind.mono (by omega)) (calT_cons (c_word_of.mono (by omega)) calT_nil))) (hr.mono (by first | decide | omega)) tk (fun _ _ _ _ _ h => h) rfl (by first | exact .inl rfl | exact .inr (.inl rfl) | exact .inr (.inr rfl)) (sa_cons (se_tup (sa_cons (se_var (pv 0)) (sa_cons (se_tup (sa_nil)) (sa_nil)))) (sa_cons (se_var (pv 1)) (sa_cons (se_var (pv 3)) (sa_nil)))))) (se_str) (nomark _)) (sss_one (ss_ret (se_bl))) (sss_nil)))) (sss_one (ss_if (st_cmpA (op_neD hu) ok_ne (se_lamF (k := 5) (fr := true) (T.c__law_word) T.d__law_word (fun F => F.bindsN fun _ _ _ _ _ _ us hl => match us, hl with | [_], _ => rfl) sc__law_word rfl (.inl rfl) (by first | rfl | decide +kernel) (fun g cdv => giv__law_word T) LA rfl (hr.mono (by first | decide | omega)) (LamX.lamS_by (sc := defScope s_f__law_refused) (by decide +kernel)) rfl (fun _ _ _ _ _ => rfl) (fun A2 outer2 s2 H2 E2 f2 c2 hr => have hu := hr.units; have hu5 := units5 hr; have tk := takes_of (X := LamX.lamCx _ A2 outer2 s2 H2 E2 _ f2 c2) rfl rfl rfl rfl; se_call c_keeps (hr.mono (by first | decide | omega)) tk rfl (sa_cons (se_tup (sa_cons (se_var (pv 0)) (sa_cons (se_tup (sa_nil)) (sa_nil)))) (sa_cons (se_var (pv 3)) (sa_nil))))) (se_str) (nomark _)) (sss_one (ss_ret (se_bl))) (sss_nil))))) (sss_cons (ss_for hps rfl (si_seq (se_lst (sa_cons (se_non) (sa_cons (se_tup (sa_cons (se_tup (sa_cons (se_str) (sa_cons (se_un un_neg ok_neg (se_int)) (sa_nil)))) (sa_nil))) (sa_cons (se_callTy call_list_of ok_lst (by rfl) T.b_list (by decide +kernel) (sa_cons (se_var (pv 1)) (sa_nil))) (sa_cons (se_tup (sa_cons (se_str) (sa_cons (se_int) (sa_nil)))) (sa_cons (se_tup (sa_cons (se_tup (sa_cons (se_str) (sa_cons (se_var (pv 0)) (sa_cons (se_int) (sa_nil))))) (sa_nil))) (sa_nil)))))))) (sg_name (i := 3) nd rfl (.inr rfl)) (sss_one (ss_if (st_cmpA (op_neD hu) ok_ne (se_lamF (k := 6) (fr := false) (T.c__law_word) T.d__law_word (fun F => F.bindsN fun _ _ _ _ _ _ us hl => match us, hl with | [_], _ => rfl) sc__law_word rfl (.inl rfl) (by first | rfl | decide +kernel) (fun g cdv => giv__law_word T) LA rfl (hr.mono (by first | decide | omega)) (LamX.lamS_by (sc := defScope s_f__law_refused) (by decide +kernel)) rfl (fun _ _ _ _ _ => rfl) (fun A2 outer2 s2 H2 E2 f2 c2 hr => have hu := hr.units; have hu5 := units5 hr; have tk := takes_of (X := LamX.lamCx _ A2 outer2 s2 H2 E2 _ f2 c2) rfl rfl rfl rfl; se_call c_behind (hr.mono (by first | decide | omega)) tk rfl (sa_cons (se_tup (sa_cons (se_var (pv 0)) (sa_cons (se_tup (sa_nil)) (sa_nil)))) (sa_cons (se_var (pv 3)) (sa_cons (se_non) (sa_nil)))))) (se_str) (nomark _)) (sss_one (ss_ret (se_bl))) (sss_nil)))) (sss_one (ss_ret (se_bl))))
theorem cal_law_dummy : True := trivial
theorem fn_f_law (T : Tx K mg base) {f : Addr} {fd : FuncData} (F : FunD K "law" "law" (defArgs s_f_law) (defBody s_f_law) (defScope s_f_law) [] [] f fd) : FnOk P w K mg base (L2.CX P w) 10 f fd P_f_law (spD K mg 1 false f_law) := by
  have c__law_jar := cal_f__law_jar (P := P) (w := w) (base := base) T
  have c_behind := cal_f_behind (P := P) (w := w) (base := base) T
  have c_keeps := cal_f_keeps (P := P) (w := w) (base := base) T
  have c__law_moments := cal_f__law_moments (P := P) (w := w) (base := base) T
  have c__law_run := cal_f__law_run (P := P) (w := w) (base := base) T
  have c_word_of := cal_f_word_of (P := P) (w := w) (base := base) T
  have c__law_dip := cal_f__law_dip (P := P) (w := w) (base := base) T
  have c__law_steps := cal_f__law_steps (P := P) (w := w) (base := base) T
  have c__law_refused := cal_f__law_refused (P := P) (w := w) (base := base) T
  have c__law_book := cal_f__law_book (P := P) (w := w) (base := base) T
  have c__law_keeps := cal_f__law_keeps (P := P) (w := w) (base := base) T
  refine def_okC F sc_f_law rfl fun cdv A outer s H E hr => ?_
  have nd := sc_f_law.nd
  have hu := hr.units
  have hu5 := units5 hr
  have tk := takes_of (X := cxOf (L2.CX P w) P w K mg base N_f_law "law" (defScope s_f_law) f cdv A outer s H E) rfl rfl rfl rfl
  have hps := passes_of (X := cxOf (L2.CX P w) P w K mg base N_f_law "law" (defScope s_f_law) f cdv A outer s H E) rfl
  exact sss_cons (ss_for hps rfl (si_range1 (by rfl) T.b_range (sa_cons (se_callB (call_max2 rfl) ok_max2 (by rfl) T.b_max (by decide +kernel) (sa_cons (se_int) (sa_cons (se_callB (call_min2 rfl) ok_min2 (by rfl) T.b_min (by decide +kernel) (sa_cons (se_int) (sa_cons (se_op op_addAll ok_add (se_callB call_lenAll ok_len (by rfl) T.b_len PySem.boot_len (sa_cons (se_var (pv 0)) (sa_nil))) (se_int)) (sa_nil)))) (sa_nil)))) (sa_nil))) (sg_name (i := 1) nd rfl (.inl rfl)) (sss_cons (ss_cel (i := 2) nd rfl (.inl rfl) (se_call c__law_jar (hr.mono (by first | decide | omega)) tk rfl (sa_cons (se_var (pv 0)) (sa_cons (se_var (pv 1)) (sa_nil))))) (sss_one (ss_for hps rfl (si_range1 (by rfl) T.b_range (sa_cons (se_int) (sa_nil))) (sg_name (i := 3) nd rfl (.inl rfl)) (sss_cons (ss_set (i := 4) nd rfl (.inl rfl) (se_op op_addAll ok_add (se_int) (se_call c__law_dip (hr.mono (by first | decide | omega)) tk rfl (sa_cons (se_var (pv 2)) (sa_cons (se_int) (sa_nil)))))) (sss_cons (ss_par0 (i := 5) (j := 6) rfl nd rfl rfl (by decide) rfl rfl (sa_cons (se_ix (se_call c__law_book (hr.mono (by first | decide | omega)) tk rfl (sa_cons (se_var (pv 2)) (sa_cons (se_var (pv 4)) (sa_cons (se_int) (sa_nil))))) (se_int) (fun _ _ => rfl)) (sa_cons (se_call c__law_steps (hr.mono (by first | decide | omega)) tk rfl (sa_cons (se_var (pv 2)) (sa_cons (se_var (pv 4)) (sa_cons (se_int) (sa_nil))))) (sa_nil))) rfl) (sss_cons (ss_set (i := 7) nd rfl (.inl rfl) (se_call c__law_moments (hr.mono (by first | decide | omega)) tk rfl (sa_cons (se_var (pv 2)) (sa_cons (se_var (pv 4)) (sa_nil))))) (sss_cons (ss_if (st_cmpA (op_eqD hu) ok_eq (se_call c__law_dip (hr.mono (by first | decide | omega)) tk rfl (sa_cons (se_var (pv 2)) (sa_cons (se_int) (sa_nil)))) (se_int) (nomark _)) (sss_one (ss_set (i := 7) nd rfl (.inl rfl) (se_rev (se_var (pv 7))))) (sss_nil)) (sss_cons (ss_asgG (se_call c__law_run (hr.mono (by first | decide | omega)) tk rfl (sa_cons (se_var (pv 4)) (sa_cons (se_var (pv 6)) (sa_cons (se_var (pv 7)) (sa_nil))))) (sgt_tup rfl (sgts_cons (sgt_name (i := 8) nd rfl (.inl rfl)) (sgts_cons (sgt_name (i := 9) nd rfl (.inl rfl)) (sgts_nil))))) (sss_cons (ss_set (i := 10) nd rfl (.inl rfl) (se_tup (sa_cons (se_var (pv 4)) (sa_cons (se_var (pv 5)) (sa_nil))))) (sss_cons (ss_if (SW.st (sw_or (st_cmpA (op_neD hu) ok_ne (se_call c_behind (hr.mono (by first | decide | omega)) tk rfl (sa_cons (se_var (pv 10)) (sa_cons (se_var (pv 6)) (sa_cons (se_var (pv 7)) (sa_nil))))) (se_var (pv 8)) (nomark _)) (sw_or1 (st_cmpA (op_neD hu) ok_ne (se_call c_word_of (hr.mono (by first | decide | omega)) tk rfl (sa_cons (se_var (pv 10)) (sa_cons (se_var (pv 6)) (sa_cons (se_var (pv 7)) (sa_nil))))) (se_var (pv 9)) (nomark _))))) (sss_one (ss_ret (seF (se_bl)))) (sss_nil)) (sss_cons (ss_set (i := 11) nd rfl (.inl rfl) (se_call c_keeps (hr.mono (by first | decide | omega)) tk rfl (sa_cons (se_tup (sa_cons (se_var (pv 4)) (sa_cons (se_var (pv 5)) (sa_nil)))) (sa_cons (se_var (pv 7)) (sa_nil))))) (sss_cons (ss_if (SW.st (sw_or (st_cmpA (op_neD hu) ok_ne (se_var (pv 11)) (se_call c__law_keeps (hr.mono (by first | decide | omega)) tk rfl (sa_cons (se_var (pv 5)) (sa_cons (se_var (pv 7)) (sa_nil)))) (nomark _)) (sw_or1 (st_not (st_val (se_callB call_isi ok_isi (by rfl) T.b_isinstance (by decide +kernel) (sa_cons (se_var (pv 11)) (sa_cons (se_ty (by rfl) T.b_bool (by decide +kernel)) (sa_nil))))))))) (sss_one (ss_ret (seF (se_bl)))) (sss_nil)) (sss_one (ss_if (st_not (st_val (se_call c__law_refused (hr.mono (by first | decide | omega)) tk rfl (sa_cons (se_var (pv 4)) (sa_cons (se_var (pv 6)) (sa_cons (se_var (pv 7)) (sa_nil))))))) (sss_one (ss_ret (seF (se_bl)))) (sss_nil)))))))))))))))) (sss_cons (ss_asgG (se_tup (sa_cons (se_tup (sa_cons (se_tup (sa_cons (se_int) (sa_cons (se_int) (sa_nil)))) (sa_cons (se_tup (sa_cons (se_int) (sa_cons (se_int) (sa_nil)))) (sa_cons (se_tup (sa_cons (se_int) (sa_cons (se_int) (sa_nil)))) (sa_cons (se_tup (sa_cons (se_int) (sa_cons (se_int) (sa_nil)))) (sa_nil)))))) (sa_cons (se_tup (sa_cons (se_tup (sa_cons (se_int) (sa_cons (se_int) (sa_nil)))) (sa_cons (se_tup (sa_cons (se_int) (sa_cons (se_int) (sa_nil)))) (sa_cons (se_tup (sa_cons (se_int) (sa_cons (se_int) (sa_nil)))) (sa_cons (se_tup (sa_cons (se_int) (sa_cons (se_int) (sa_nil)))) (sa_nil)))))) (sa_nil)))) (sgt_tup rfl (sgts_cons (sgt_name (i := 12) nd rfl (.inl rfl)) (sgts_cons (sgt_name (i := 13) nd rfl (.inl rfl)) (sgts_nil))))) (sss_cons (ss_asgG (se_tup (sa_cons (se_tup (sa_cons (se_int) (sa_cons (se_tup (sa_cons (se_tup (sa_cons (se_int) (sa_cons (se_int) (sa_cons (se_int) (sa_nil))))) (sa_cons (se_tup (sa_cons (se_int) (sa_cons (se_int) (sa_cons (se_int) (sa_nil))))) (sa_cons (se_tup (sa_cons (se_int) (sa_cons (se_int) (sa_cons (se_int) (sa_nil))))) (sa_nil))))) (sa_nil)))) (sa_cons (se_tup (sa_cons (se_tup (sa_cons (se_str) (sa_cons (se_int) (sa_nil)))) (sa_nil))) (sa_nil)))) (sgt_tup rfl (sgts_cons (sgt_name (i := 14) nd rfl (.inl rfl)) (sgts_cons (sgt_name (i := 15) nd rfl (.inl rfl)) (sgts_nil))))) (sss_cons (ss_set (i := 11) nd rfl (.inl rfl) (se_lst (sa_cons (se_call c_behind (hr.mono (by first | decide | omega)) tk rfl (sa_cons (se_var (pv 14)) (sa_cons (se_var (pv 15)) (sa_cons (se_var (pv 12)) (sa_nil))))) (sa_cons (se_call c_behind (hr.mono (by first | decide | omega)) tk rfl (sa_cons (se_var (pv 14)) (sa_cons (se_tup (sa_cons (se_tup (sa_cons (se_str) (sa_cons (se_int) (sa_nil)))) (sa_nil))) (sa_cons (se_var (pv 12)) (sa_nil))))) (sa_cons (se_call c_behind (hr.mono (by first | decide | omega)) tk rfl (sa_cons (se_var (pv 14)) (sa_cons (se_tup (sa_cons (se_tup (sa_cons (se_str) (sa_cons (se_int) (sa_nil)))) (sa_nil))) (sa_cons (se_var (pv 12)) (sa_nil))))) (sa_nil)))))) (sss_cons (ss_if (st_cmpA (op_neD hu) ok_ne (se_lc rfl nd (own := [("part", 16), ("at", 17)]) (si_seq (se_lstZip rfl (by rfl) T.b_list (by rfl) T.b_zip (sa_cons (se_var (pv 11)) (sa_cons (se_tup (sa_cons (se_int) (sa_cons (se_int) (sa_cons (se_int) (sa_nil))))) (sa_nil))))) (blkOk_by (N := N_f_law) (sc := defScope s_f_law) (by decide +kernel)) (fun _ _ _ _ _ => sg_tup rfl (sgs_cons (sg_name (i := 16) nd rfl (.inl rfl)) (sgs_cons (sg_name (i := 17) nd rfl (.inl rfl)) (sgs_nil)))) (fun _ _ _ _ _ => pts_yes) (fun _ _ _ _ _ => se_ix (se_var (pv 16)) (se_var (pv 17)) (fun _ _ => rfl))) (se_lst (sa_cons (se_tup (sa_cons (se_int) (sa_cons (se_int) (sa_nil)))) (sa_cons (se_tup (sa_cons (se_int) (sa_cons (se_int) (sa_nil)))) (sa_cons (se_tup (sa_cons (se_int) (sa_cons (se_int) (sa_nil)))) (sa_nil))))) (nomark _)) (sss_one (ss_ret (seF (se_bl)))) (sss_nil)) (sss_cons (ss_set (i := 6) nd rfl (.inl rfl) (se_tup (sa_cons (se_tup (sa_cons (se_str) (sa_cons (se_int) (sa_cons (se_int) (sa_nil))))) (sa_cons (se_tup (sa_cons (se_str) (sa_cons (se_int) (sa_nil)))) (sa_cons (se_tup (sa_cons (se_str) (sa_cons (se_int) (sa_nil)))) (sa_nil)))))) (sss_cons (ss_if (SW.st (sw_or (st_cmpA (op_neD hu) ok_ne (se_call c_behind (hr.mono (by first | decide | omega)) tk rfl (sa_cons (se_var (pv 14)) (sa_cons (se_var (pv 6)) (sa_cons (se_var (pv 12)) (sa_nil))))) (se_tup (sa_cons (se_tup (sa_cons (se_int) (sa_cons (se_int) (sa_nil)))) (sa_cons (se_tup (sa_cons (se_int) (sa_cons (se_int) (sa_nil)))) (sa_cons (se_tup (sa_cons (se_int) (sa_cons (se_int) (sa_nil)))) (sa_cons (se_tup (sa_cons (se_int) (sa_cons (se_int) (sa_nil)))) (sa_nil)))))) (nomark _)) (sw_or1 (st_cmpA (op_neD hu) ok_ne (se_call c_word_of (hr.mono (by first | decide | omega)) tk rfl (sa_cons (se_var (pv 14)) (sa_cons (se_var (pv 6)) (sa_cons (se_var (pv 12)) (sa_nil))))) (se_op op_mulAll ok_mul (se_tup (sa_cons (se_bl) (sa_nil))) (se_int)) (nomark _))))) (sss_one (ss_ret (seF (se_bl)))) (sss_nil)) (sss_cons (ss_if (SW.st (sw_or (st_cmpA (op_neD hu) ok_ne (se_call c_behind (hr.mono (by first | decide | omega)) tk rfl (sa_cons (se_var (pv 14)) (sa_cons (se_tup (sa_cons (se_tup (sa_cons (se_str) (sa_cons (se_int) (sa_nil)))) (sa_nil))) (sa_cons (se_var (pv 12)) (sa_nil))))) (se_tup (sa_cons (se_tup (sa_cons (se_int) (sa_cons (se_int) (sa_nil)))) (sa_cons (se_tup (sa_cons (se_int) (sa_cons (se_int) (sa_nil)))) (sa_cons (se_tup (sa_cons (se_int) (sa_cons (se_int) (sa_nil)))) (sa_cons (se_tup (sa_cons (se_int) (sa_cons (se_int) (sa_nil)))) (sa_nil)))))) (nomark _)) (sw_or1 (st_val (se_call c_keeps (hr.mono (by first | decide | omega)) tk rfl (sa_cons (se_var (pv 14)) (sa_cons (se_var (pv 12)) (sa_nil)))))))) (sss_one (ss_ret (seF (se_bl)))) (sss_nil)) (sss_cons (ss_set (i := 18) nd rfl (.inl rfl) (se_tup (sa_cons (se_tup (sa_cons (se_int) (sa_cons (se_int) (sa_nil)))) (sa_cons (se_tup (sa_cons (se_int) (sa_cons (se_int) (sa_nil)))) (sa_cons (se_tup (sa_cons (se_int) (sa_cons (se_int) (sa_nil)))) (sa_cons (se_tup (sa_cons (se_int) (sa_cons (se_int) (sa_nil)))) (sa_cons (se_tup (sa_cons (se_int) (sa_cons (se_int) (sa_nil)))) (sa_cons (se_tup (sa_cons (se_int) (sa_cons (se_int) (sa_nil)))) (sa_nil))))))))) (sss_cons (ss_if (st_cmpA (op_neD hu) ok_ne (se_call c_behind (hr.mono (by first | decide | omega)) tk rfl (sa_cons (se_tup (sa_cons (se_int) (sa_cons (se_tup (sa_nil)) (sa_nil)))) (sa_cons (se_tup (sa_cons (se_tup (sa_cons (se_str) (sa_cons (se_int) (sa_nil)))) (sa_nil))) (sa_cons (se_var (pv 18)) (sa_nil))))) (se_tup (sa_cons (se_tup (sa_cons (se_int) (sa_cons (se_int) (sa_nil)))) (sa_cons (se_tup (sa_cons (se_int) (sa_cons (se_int) (sa_nil)))) (sa_cons (se_tup (sa_cons (se_int) (sa_cons (se_int) (sa_nil)))) (sa_cons (se_tup (sa_cons (se_int) (sa_cons (se_int) (sa_nil)))) (sa_cons (se_tup (sa_cons (se_int) (sa_cons (se_int) (sa_nil)))) (sa_cons (se_tup (sa_cons (se_int) (sa_cons (se_int) (sa_nil)))) (sa_nil)))))))) (nomark _)) (sss_one (ss_ret (seF (se_bl)))) (sss_nil)) (sss_one (ss_ret (seF (se_and (se_cmp (op_eqD hu) ok_eq (se_call c_word_of (hr.mono (by first | decide | omega)) tk rfl (sa_cons (se_tup (sa_cons (se_int) (sa_cons (se_tup (sa_nil)) (sa_nil)))) (sa_cons (se_tup (sa_cons (se_tup (sa_cons (se_str) (sa_cons (se_int) (sa_nil)))) (sa_nil))) (sa_cons (se_var (pv 18)) (sa_nil))))) (se_tup (sa_cons (se_bl) (sa_cons (se_bl) (sa_nil)))) (nomark _)) (se_one (se_cmp op_is_bl ok_isB (se_call c_keeps (hr.mono (by first | decide | omega)) tk rfl (sa_cons (se_var (pv 14)) (sa_cons (se_var (pv 13)) (sa_nil)))) (se_bl) (nomark _))))))))))))))))
end
end G

end
section
namespace G
open PySem PySem.Spec PyProof.Rows L2
def D_f_is_from : He.DefD := ⟨("is_from", none), "is_from", "is_from", defArgs s_f_is_from, defBody s_f_is_from, defScope s_f_is_from, [], []⟩
def D_f_lowest : He.DefD := ⟨("lowest", none), "lowest", "lowest", defArgs s_f_lowest, defBody s_f_lowest, defScope s_f_lowest, [], []⟩
def D_f_plus : He.DefD := ⟨("plus", none), "plus", "plus", defArgs s_f_plus, defBody s_f_plus, defScope s_f_plus, [], []⟩
def D_f_is_less : He.DefD := ⟨("is_less", none), "is_less", "is_less", defArgs s_f_is_less, defBody s_f_is_less, defScope s_f_is_less, [], []⟩
def D_f_is_fraction : He.DefD := ⟨("is_fraction", none), "is_fraction", "is_fraction", defArgs s_f_is_fraction, defBody s_f_is_fraction, defScope s_f_is_fraction, [], []⟩
def D_f_is_gap : He.DefD := ⟨("is_gap", none), "is_gap", "is_gap", defArgs s_f_is_gap, defBody s_f_is_gap, defScope s_f_is_gap, [], []⟩
def D_f_is_good_book : He.DefD := ⟨("is_good_book", none), "is_good_book", "is_good_book", defArgs s_f_is_good_book, defBody s_f_is_good_book, defScope s_f_is_good_book, [], []⟩
def D_f_is_step : He.DefD := ⟨("is_step", none), "is_step", "is_step", defArgs s_f_is_step, defBody s_f_is_step, defScope s_f_is_step, [], []⟩
def D_f_is_good_script : He.DefD := ⟨("is_good_script", none), "is_good_script", "is_good_script", defArgs s_f_is_good_script, defBody s_f_is_good_script, defScope s_f_is_good_script, [], []⟩
def D_f_are_good_moments : He.DefD := ⟨("are_good_moments", none), "are_good_moments", "are_good_moments", defArgs s_f_are_good_moments, defBody s_f_are_good_moments, defScope s_f_are_good_moments, [], []⟩
def D_f_need_book : He.DefD := ⟨("need_book", none), "need_book", "need_book", defArgs s_f_need_book, defBody s_f_need_book, defScope s_f_need_book, [], []⟩
def D_f_need_script : He.DefD := ⟨("need_script", none), "need_script", "need_script", defArgs s_f_need_script, defBody s_f_need_script, defScope s_f_need_script, [], []⟩
def D_f_need_moments : He.DefD := ⟨("need_moments", none), "need_moments", "need_moments", defArgs s_f_need_moments, defBody s_f_need_moments, defScope s_f_need_moments, [], []⟩
def D_f_is_kept : He.DefD := ⟨("is_kept", none), "is_kept", "is_kept", defArgs s_f_is_kept, defBody s_f_is_kept, defScope s_f_is_kept, [], []⟩
def D_f_keeps : He.DefD := ⟨("keeps", none), "keeps", "keeps", defArgs s_f_keeps, defBody s_f_keeps, defScope s_f_keeps, [], []⟩
def D_f_tests_of : He.DefD := ⟨("tests_of", none), "tests_of", "tests_of", defArgs s_f_tests_of, defBody s_f_tests_of, defScope s_f_tests_of, [], []⟩
def D_f_later_by : He.DefD := ⟨("later_by", none), "later_by", "later_by", defArgs s_f_later_by, defBody s_f_later_by, defScope s_f_later_by, [], []⟩
def D_f_shifted : He.DefD := ⟨("shifted", none), "shifted", "shifted", defArgs s_f_shifted, defBody s_f_shifted, defScope s_f_shifted, [], []⟩
def D_f_put : He.DefD := ⟨("put", none), "put", "put", defArgs s_f_put, defBody s_f_put, defScope s_f_put, [], []⟩
def D_f_run_so : He.DefD := ⟨("run_so", none), "run_so", "run_so", defArgs s_f_run_so, defBody s_f_run_so, defScope s_f_run_so, [], []⟩
def D_f_behind : He.DefD := ⟨("behind", none), "behind", "behind", defArgs s_f_behind, defBody s_f_behind, defScope s_f_behind, [], []⟩
def D_f_word_of : He.DefD := ⟨("word_of", none), "word_of", "word_of", defArgs s_f_word_of, defBody s_f_word_of, defScope s_f_word_of, [], []⟩
def D_f__law_jar : He.DefD := ⟨("_law_jar", none), "_law_jar", "_law_jar", defArgs s_f__law_jar, defBody s_f__law_jar, defScope s_f__law_jar, [], []⟩
def D_f__law_dip : He.DefD := ⟨("_law_dip", none), "_law_dip", "_law_dip", defArgs s_f__law_dip, defBody s_f__law_dip, defScope s_f__law_dip, [], []⟩
def D_f__law_any : He.DefD := ⟨("_law_any", none), "_law_any", "_law_any", defArgs s_f__law_any, defBody s_f__law_any, defScope s_f__law_any, [], []⟩
def D_f__law_low : He.DefD := ⟨("_law_low", none), "_law_low", "_law_low", defArgs s_f__law_low, defBody s_f__law_low, defScope s_f__law_low, [], []⟩
def D_f__law_plus : He.DefD := ⟨("_law_plus", none), "_law_plus", "_law_plus", defArgs s_f__law_plus, defBody s_f__law_plus, defScope s_f__law_plus, [], []⟩
def D_f__law_below : He.DefD := ⟨("_law_below", none), "_law_below", "_law_below", defArgs s_f__law_below, defBody s_f__law_below, defScope s_f__law_below, [], []⟩
def D_f__law_moments : He.DefD := ⟨("_law_moments", none), "_law_moments", "_law_moments", defArgs s_f__law_moments, defBody s_f__law_moments, defScope s_f__law_moments, [], []⟩
def D_f__law_gap : He.DefD := ⟨("_law_gap", none), "_law_gap", "_law_gap", defArgs s_f__law_gap, defBody s_f__law_gap, defScope s_f__law_gap, [], []⟩
def D_f__law_book : He.DefD := ⟨("_law_book", none), "_law_book", "_law_book", defArgs s_f__law_book, defBody s_f__law_book, defScope s_f__law_book, [], []⟩
def D_f__law_step : He.DefD := ⟨("_law_step", none), "_law_step", "_law_step", defArgs s_f__law_step, defBody s_f__law_step, defScope s_f__law_step, [], []⟩
def D_f__law_steps : He.DefD := ⟨("_law_steps", none), "_law_steps", "_law_steps", defArgs s_f__law_steps, defBody s_f__law_steps, defScope s_f__law_steps, [], []⟩
def D_f__law_more : He.DefD := ⟨("_law_more", none), "_law_more", "_law_more", defArgs s_f__law_more, defBody s_f__law_more, defScope s_f__law_more, [], []⟩
def D_f__law_test : He.DefD := ⟨("_law_test", none), "_law_test", "_law_test", defArgs s_f__law_test, defBody s_f__law_test, defScope s_f__law_test, [], []⟩
def D_f__law_run : He.DefD := ⟨("_law_run", none), "_law_run", "_law_run", defArgs s_f__law_run, defBody s_f__law_run, defScope s_f__law_run, [], []⟩
def D_f__law_keeps : He.DefD := ⟨("_law_keeps", none), "_law_keeps", "_law_keeps", defArgs s_f__law_keeps, defBody s_f__law_keeps, defScope s_f__law_keeps, [], []⟩
def D_f__law_refused : He.DefD := ⟨("_law_refused", none), "_law_refused", "_law_refused", defArgs s_f__law_refused, defBody s_f__law_refused, defScope s_f__law_refused, [], []⟩
def D_f_law : He.DefD := ⟨("law", none), "law", "law", defArgs s_f_law, defBody s_f_law, defScope s_f_law, [], []⟩
def D__law_word : He.DefD := ⟨("_law_word", none), "_law_word", "_law_word", defArgs s__law_word, defBody s__law_word, defScope s__law_word, [], []⟩
def fn0 : List He.DefD := [D_f_is_from, D_f_lowest, D_f_plus, D_f_is_less, D_f_is_fraction, D_f_is_gap, D_f_is_good_book, D_f_is_step, D_f_is_good_script, D_f_are_good_moments, D_f_need_book, D_f_need_script, D_f_need_moments, D_f_is_kept, D_f_keeps, D_f_tests_of, D_f_later_by, D_f_shifted, D_f_put, D_f_run_so, D_f_behind, D_f_word_of, D_f__law_jar, D_f__law_dip, D_f__law_any, D_f__law_low, D_f__law_plus, D_f__law_below, D_f__law_moments, D_f__law_gap]
def fn1 : List He.DefD := [D_f__law_book, D_f__law_step, D_f__law_steps, D_f__law_more, D_f__law_test, D_f__law_run, D_f__law_keeps, D_f__law_refused, D_f_law, D__law_word]
def fnA : List He.DefD := fn0 ++ fn1
def fa0 : List He.Fa := [.glo "is_from", .glo "lowest", .glo "plus", .glo "is_less", .glo "is_fraction", .glo "is_gap", .glo "is_good_book", .glo "is_step", .glo "is_good_script", .glo "are_good_moments", .glo "need_book", .glo "need_script", .glo "need_moments", .glo "is_kept", .glo "keeps", .glo "tests_of", .glo "later_by", .glo "shifted", .glo "put", .glo "run_so", .glo "behind", .glo "word_of", .glo "_law_jar", .glo "_law_dip", .glo "_law_any", .glo "_law_low", .glo "_law_plus", .glo "_law_below", .glo "_law_moments", .glo "_law_gap"]
def fa1 : List He.Fa := [.glo "_law_book", .glo "_law_step", .glo "_law_steps", .glo "_law_more", .glo "_law_test", .glo "_law_run", .glo "_law_keeps", .glo "_law_refused", .glo "law", .glo "_law_word", .glo "InvalidBook", .glo "InvalidMoments", .glo "InvalidScript", .exc "InvalidBook", .exc "InvalidMoments", .exc "InvalidScript", .free "abs", .free "all", .free "bool", .free "enumerate", .free "int", .free "isinstance", .free "len", .free "list", .free "max", .free "min", .free "range", .free "str", .free "tuple", .free "zip"]
def fa2 : List He.Fa := [.exm "InvalidBook" "InvalidMoments" false, .exm "InvalidBook" "InvalidScript" false, .exm "InvalidMoments" "InvalidMoments" true, .exm "InvalidMoments" "InvalidScript" false, .exm "InvalidScript" "InvalidMoments" false, .exm "InvalidScript" "InvalidScript" true]
def faA : List He.Fa := fa0 ++ fa1 ++ fa2
def lo0 : List Str := ["CueError", "InvalidBook", "InvalidScript", "InvalidMoments", "is_from", "lowest", "plus", "is_less", "is_fraction", "is_gap", "is_good_book", "is_step", "is_good_script", "are_good_moments", "need_book", "need_script", "need_moments", "is_kept", "keeps", "tests_of", "shifted", "put", "later_by", "run_so", "behind", "word_of", "_law_jar", "_law_dip", "_law_any", "_law_low"]
def lo1 : List Str := ["_law_plus", "_law_below", "_law_moments", "_law_gap", "_law_book", "_law_step", "_law_steps", "_law_more", "_law_run", "_law_test", "_law_keeps", "_law_word", "_law_refused"]
def looseA : List Str := lo0 ++ lo1
abbrev R : PySem.W.OpenRow := PySem.W.OpenLaw.row PySem.Challenge.rw_cuesuntold_k02_scripts_with_told_moments
abbrev hk : PySem.W.Hook := He.hookX 4 faA fnA [] (tfs.map (·.1)) (tabEx tfs)
def ob (s : PySem.W.SharedT) : He.AlX := He.obsX 4 faA fnA [] (tfs.map (·.1)) (tabEx tfs) (HandSHeadRun.getT s)
theorem ob_eq (s : PySem.W.SharedT) : ob s = hk.obs s.abs := He.obsX_eq (HandSHeadRun.getT_eq s)
theorem run (w : World) : HandSHeadRun.RunEq R (PySem.W.view R.prog [47]) hk ob 4000 looseA w := by
  intro os
  kernel_rfl
theorem tx_of {K : PySem.W.Frag} {h base : Heap} {mg : Str → Option Value} (X : K.In h) (G : h.Ns mainGlobals mg) (c : He.SaysD faA fnA K) (hn : tabEx tfs K = true) (B : ∀ c ∈ tfs.map (fun p => He.cT K p.1), LamX.TabB base mg c.1 c.2) : Tx K mg base where
  d_is_from := have ⟨fd, F⟩ := c.def_ 0 (d := D_f_is_from) rfl; ⟨_, fd, F, He.glo_ok X G (c.fact 0 (f := .glo "is_from") rfl)⟩
  g_is_from := He.glo_ok X G (c.fact 0 (f := .glo "is_from") rfl)
  d_lowest := have ⟨fd, F⟩ := c.def_ 1 (d := D_f_lowest) rfl; ⟨_, fd, F, He.glo_ok X G (c.fact 1 (f := .glo "lowest") rfl)⟩
  g_lowest := He.glo_ok X G (c.fact 1 (f := .glo "lowest") rfl)
  d_plus := have ⟨fd, F⟩ := c.def_ 2 (d := D_f_plus) rfl; ⟨_, fd, F, He.glo_ok X G (c.fact 2 (f := .glo "plus") rfl)⟩
  g_plus := He.glo_ok X G (c.fact 2 (f := .glo "plus") rfl)
  d_is_less := have ⟨fd, F⟩ := c.def_ 3 (d := D_f_is_less) rfl; ⟨_, fd, F, He.glo_ok X G (c.fact 3 (f := .glo "is_less") rfl)⟩
  g_is_less := He.glo_ok X G (c.fact 3 (f := .glo "is_less") rfl)
  d_is_fraction := have ⟨fd, F⟩ := c.def_ 4 (d := D_f_is_fraction) rfl; ⟨_, fd, F, He.glo_ok X G (c.fact 4 (f := .glo "is_fraction") rfl)⟩
  g_is_fraction := He.glo_ok X G (c.fact 4 (f := .glo "is_fraction") rfl)
  d_is_gap := have ⟨fd, F⟩ := c.def_ 5 (d := D_f_is_gap) rfl; ⟨_, fd, F, He.glo_ok X G (c.fact 5 (f := .glo "is_gap") rfl)⟩
  g_is_gap := He.glo_ok X G (c.fact 5 (f := .glo "is_gap") rfl)
  d_is_good_book := have ⟨fd, F⟩ := c.def_ 6 (d := D_f_is_good_book) rfl; ⟨_, fd, F, He.glo_ok X G (c.fact 6 (f := .glo "is_good_book") rfl)⟩
  g_is_good_book := He.glo_ok X G (c.fact 6 (f := .glo "is_good_book") rfl)
  d_is_step := have ⟨fd, F⟩ := c.def_ 7 (d := D_f_is_step) rfl; ⟨_, fd, F, He.glo_ok X G (c.fact 7 (f := .glo "is_step") rfl)⟩
  g_is_step := He.glo_ok X G (c.fact 7 (f := .glo "is_step") rfl)
  d_is_good_script := have ⟨fd, F⟩ := c.def_ 8 (d := D_f_is_good_script) rfl; ⟨_, fd, F, He.glo_ok X G (c.fact 8 (f := .glo "is_good_script") rfl)⟩
  g_is_good_script := He.glo_ok X G (c.fact 8 (f := .glo "is_good_script") rfl)
  d_are_good_moments := have ⟨fd, F⟩ := c.def_ 9 (d := D_f_are_good_moments) rfl; ⟨_, fd, F, He.glo_ok X G (c.fact 9 (f := .glo "are_good_moments") rfl)⟩
  g_are_good_moments := He.glo_ok X G (c.fact 9 (f := .glo "are_good_moments") rfl)
  d_need_book := have ⟨fd, F⟩ := c.def_ 10 (d := D_f_need_book) rfl; ⟨_, fd, F, He.glo_ok X G (c.fact 10 (f := .glo "need_book") rfl)⟩
  g_need_book := He.glo_ok X G (c.fact 10 (f := .glo "need_book") rfl)
  d_need_script := have ⟨fd, F⟩ := c.def_ 11 (d := D_f_need_script) rfl; ⟨_, fd, F, He.glo_ok X G (c.fact 11 (f := .glo "need_script") rfl)⟩
  g_need_script := He.glo_ok X G (c.fact 11 (f := .glo "need_script") rfl)
  d_need_moments := have ⟨fd, F⟩ := c.def_ 12 (d := D_f_need_moments) rfl; ⟨_, fd, F, He.glo_ok X G (c.fact 12 (f := .glo "need_moments") rfl)⟩
  g_need_moments := He.glo_ok X G (c.fact 12 (f := .glo "need_moments") rfl)
  d_is_kept := have ⟨fd, F⟩ := c.def_ 13 (d := D_f_is_kept) rfl; ⟨_, fd, F, He.glo_ok X G (c.fact 13 (f := .glo "is_kept") rfl)⟩
  g_is_kept := He.glo_ok X G (c.fact 13 (f := .glo "is_kept") rfl)
  d_keeps := have ⟨fd, F⟩ := c.def_ 14 (d := D_f_keeps) rfl; ⟨_, fd, F, He.glo_ok X G (c.fact 14 (f := .glo "keeps") rfl)⟩
  g_keeps := He.glo_ok X G (c.fact 14 (f := .glo "keeps") rfl)
  d_tests_of := have ⟨fd, F⟩ := c.def_ 15 (d := D_f_tests_of) rfl; ⟨_, fd, F, He.glo_ok X G (c.fact 15 (f := .glo "tests_of") rfl)⟩
  g_tests_of := He.glo_ok X G (c.fact 15 (f := .glo "tests_of") rfl)
  d_later_by := have ⟨fd, F⟩ := c.def_ 16 (d := D_f_later_by) rfl; ⟨_, fd, F, He.glo_ok X G (c.fact 16 (f := .glo "later_by") rfl)⟩
  g_later_by := He.glo_ok X G (c.fact 16 (f := .glo "later_by") rfl)
  d_shifted := have ⟨fd, F⟩ := c.def_ 17 (d := D_f_shifted) rfl; ⟨_, fd, F, He.glo_ok X G (c.fact 17 (f := .glo "shifted") rfl)⟩
  g_shifted := He.glo_ok X G (c.fact 17 (f := .glo "shifted") rfl)
  d_put := have ⟨fd, F⟩ := c.def_ 18 (d := D_f_put) rfl; ⟨_, fd, F, He.glo_ok X G (c.fact 18 (f := .glo "put") rfl)⟩
  g_put := He.glo_ok X G (c.fact 18 (f := .glo "put") rfl)
  d_run_so := have ⟨fd, F⟩ := c.def_ 19 (d := D_f_run_so) rfl; ⟨_, fd, F, He.glo_ok X G (c.fact 19 (f := .glo "run_so") rfl)⟩
  g_run_so := He.glo_ok X G (c.fact 19 (f := .glo "run_so") rfl)
  d_behind := have ⟨fd, F⟩ := c.def_ 20 (d := D_f_behind) rfl; ⟨_, fd, F, He.glo_ok X G (c.fact 20 (f := .glo "behind") rfl)⟩
  g_behind := He.glo_ok X G (c.fact 20 (f := .glo "behind") rfl)
  d_word_of := have ⟨fd, F⟩ := c.def_ 21 (d := D_f_word_of) rfl; ⟨_, fd, F, He.glo_ok X G (c.fact 21 (f := .glo "word_of") rfl)⟩
  g_word_of := He.glo_ok X G (c.fact 21 (f := .glo "word_of") rfl)
  d__law_jar := have ⟨fd, F⟩ := c.def_ 22 (d := D_f__law_jar) rfl; ⟨_, fd, F, He.glo_ok X G (c.fact 22 (f := .glo "_law_jar") rfl)⟩
  g__law_jar := He.glo_ok X G (c.fact 22 (f := .glo "_law_jar") rfl)
  d__law_dip := have ⟨fd, F⟩ := c.def_ 23 (d := D_f__law_dip) rfl; ⟨_, fd, F, He.glo_ok X G (c.fact 23 (f := .glo "_law_dip") rfl)⟩
  g__law_dip := He.glo_ok X G (c.fact 23 (f := .glo "_law_dip") rfl)
  d__law_any := have ⟨fd, F⟩ := c.def_ 24 (d := D_f__law_any) rfl; ⟨_, fd, F, He.glo_ok X G (c.fact 24 (f := .glo "_law_any") rfl)⟩
  g__law_any := He.glo_ok X G (c.fact 24 (f := .glo "_law_any") rfl)
  d__law_low := have ⟨fd, F⟩ := c.def_ 25 (d := D_f__law_low) rfl; ⟨_, fd, F, He.glo_ok X G (c.fact 25 (f := .glo "_law_low") rfl)⟩
  g__law_low := He.glo_ok X G (c.fact 25 (f := .glo "_law_low") rfl)
  d__law_plus := have ⟨fd, F⟩ := c.def_ 26 (d := D_f__law_plus) rfl; ⟨_, fd, F, He.glo_ok X G (c.fact 26 (f := .glo "_law_plus") rfl)⟩
  g__law_plus := He.glo_ok X G (c.fact 26 (f := .glo "_law_plus") rfl)
  d__law_below := have ⟨fd, F⟩ := c.def_ 27 (d := D_f__law_below) rfl; ⟨_, fd, F, He.glo_ok X G (c.fact 27 (f := .glo "_law_below") rfl)⟩
  g__law_below := He.glo_ok X G (c.fact 27 (f := .glo "_law_below") rfl)
  d__law_moments := have ⟨fd, F⟩ := c.def_ 28 (d := D_f__law_moments) rfl; ⟨_, fd, F, He.glo_ok X G (c.fact 28 (f := .glo "_law_moments") rfl)⟩
  g__law_moments := He.glo_ok X G (c.fact 28 (f := .glo "_law_moments") rfl)
  d__law_gap := have ⟨fd, F⟩ := c.def_ 29 (d := D_f__law_gap) rfl; ⟨_, fd, F, He.glo_ok X G (c.fact 29 (f := .glo "_law_gap") rfl)⟩
  g__law_gap := He.glo_ok X G (c.fact 29 (f := .glo "_law_gap") rfl)
  d__law_book := have ⟨fd, F⟩ := c.def_ 30 (d := D_f__law_book) rfl; ⟨_, fd, F, He.glo_ok X G (c.fact 30 (f := .glo "_law_book") rfl)⟩
  g__law_book := He.glo_ok X G (c.fact 30 (f := .glo "_law_book") rfl)
  d__law_step := have ⟨fd, F⟩ := c.def_ 31 (d := D_f__law_step) rfl; ⟨_, fd, F, He.glo_ok X G (c.fact 31 (f := .glo "_law_step") rfl)⟩
  g__law_step := He.glo_ok X G (c.fact 31 (f := .glo "_law_step") rfl)
  d__law_steps := have ⟨fd, F⟩ := c.def_ 32 (d := D_f__law_steps) rfl; ⟨_, fd, F, He.glo_ok X G (c.fact 32 (f := .glo "_law_steps") rfl)⟩
  g__law_steps := He.glo_ok X G (c.fact 32 (f := .glo "_law_steps") rfl)
  d__law_more := have ⟨fd, F⟩ := c.def_ 33 (d := D_f__law_more) rfl; ⟨_, fd, F, He.glo_ok X G (c.fact 33 (f := .glo "_law_more") rfl)⟩
  g__law_more := He.glo_ok X G (c.fact 33 (f := .glo "_law_more") rfl)
  d__law_test := have ⟨fd, F⟩ := c.def_ 34 (d := D_f__law_test) rfl; ⟨_, fd, F, He.glo_ok X G (c.fact 34 (f := .glo "_law_test") rfl)⟩
  g__law_test := He.glo_ok X G (c.fact 34 (f := .glo "_law_test") rfl)
  d__law_run := have ⟨fd, F⟩ := c.def_ 35 (d := D_f__law_run) rfl; ⟨_, fd, F, He.glo_ok X G (c.fact 35 (f := .glo "_law_run") rfl)⟩
  g__law_run := He.glo_ok X G (c.fact 35 (f := .glo "_law_run") rfl)
  d__law_keeps := have ⟨fd, F⟩ := c.def_ 36 (d := D_f__law_keeps) rfl; ⟨_, fd, F, He.glo_ok X G (c.fact 36 (f := .glo "_law_keeps") rfl)⟩
  g__law_keeps := He.glo_ok X G (c.fact 36 (f := .glo "_law_keeps") rfl)
  d__law_refused := have ⟨fd, F⟩ := c.def_ 37 (d := D_f__law_refused) rfl; ⟨_, fd, F, He.glo_ok X G (c.fact 37 (f := .glo "_law_refused") rfl)⟩
  g__law_refused := He.glo_ok X G (c.fact 37 (f := .glo "_law_refused") rfl)
  d_law := have ⟨fd, F⟩ := c.def_ 38 (d := D_f_law) rfl; ⟨_, fd, F, He.glo_ok X G (c.fact 38 (f := .glo "law") rfl)⟩
  g_law := He.glo_ok X G (c.fact 38 (f := .glo "law") rfl)
  g_InvalidBook := He.glo_ok X G (c.fact 40 (f := .glo "InvalidBook") rfl)
  e_InvalidBook := He.exc_ok (c.fact 43 (f := .exc "InvalidBook") rfl)
  g_InvalidMoments := He.glo_ok X G (c.fact 41 (f := .glo "InvalidMoments") rfl)
  e_InvalidMoments := He.exc_ok (c.fact 44 (f := .exc "InvalidMoments") rfl)
  g_InvalidScript := He.glo_ok X G (c.fact 42 (f := .glo "InvalidScript") rfl)
  e_InvalidScript := He.exc_ok (c.fact 45 (f := .exc "InvalidScript") rfl)
  d__law_word := have ⟨fd, F⟩ := c.def_ 39 (d := D__law_word) rfl; ⟨_, fd, F, He.glo_ok X G (c.fact 39 (f := .glo "_law_word") rfl)⟩
  c__law_word := ⟨rfl, fun y hy p hp C hC => by
      rcases List.mem_cons.mp hy with e0 | hy
      · subst e0; have e := hC.symm.trans (He.glo_ok X G (c.fact 40 (f := .glo "InvalidBook") rfl)); cases e
        rcases List.mem_cons.mp hp with e1 | hp
        · subst e1; exact (He.exm_ok (c.fact 61 (f := .exm "InvalidBook" "InvalidScript" false) rfl)).trans (congrArg some (by decide +kernel : false = decide (("InvalidBook" : Str) = "InvalidScript")))
        · rcases List.mem_cons.mp hp with e1 | hp
          · subst e1; exact (He.exm_ok (c.fact 60 (f := .exm "InvalidBook" "InvalidMoments" false) rfl)).trans (congrArg some (by decide +kernel : false = decide (("InvalidBook" : Str) = "InvalidMoments")))
          · exact absurd hp (by simp)
      · rcases List.mem_cons.mp hy with e0 | hy
        · subst e0; have e := hC.symm.trans (He.glo_ok X G (c.fact 41 (f := .glo "InvalidMoments") rfl)); cases e
          rcases List.mem_cons.mp hp with e1 | hp
          · subst e1; exact (He.exm_ok (c.fact 63 (f := .exm "InvalidMoments" "InvalidScript" false) rfl)).trans (congrArg some (by decide +kernel : false = decide (("InvalidMoments" : Str) = "InvalidScript")))
          · rcases List.mem_cons.mp hp with e1 | hp
            · subst e1; exact (He.exm_ok (c.fact 62 (f := .exm "InvalidMoments" "InvalidMoments" true) rfl)).trans (congrArg some (by decide +kernel : true = decide (("InvalidMoments" : Str) = "InvalidMoments")))
            · exact absurd hp (by simp)
        · rcases List.mem_cons.mp hy with e0 | hy
          · subst e0; have e := hC.symm.trans (He.glo_ok X G (c.fact 42 (f := .glo "InvalidScript") rfl)); cases e
            rcases List.mem_cons.mp hp with e1 | hp
            · subst e1; exact (He.exm_ok (c.fact 65 (f := .exm "InvalidScript" "InvalidScript" true) rfl)).trans (congrArg some (by decide +kernel : true = decide (("InvalidScript" : Str) = "InvalidScript")))
            · rcases List.mem_cons.mp hp with e1 | hp
              · subst e1; exact (He.exm_ok (c.fact 64 (f := .exm "InvalidScript" "InvalidMoments" false) rfl)).trans (congrArg some (by decide +kernel : false = decide (("InvalidScript" : Str) = "InvalidMoments")))
              · exact absurd hp (by simp)
          · exact absurd hy (by simp)⟩
  l__law_refused := have ⟨fd, F⟩ := c.def_ 37 (d := D_f__law_refused) rfl; ⟨_, fd, _, _, F, He.glo_ok X G (c.fact 37 (f := .glo "_law_refused") rfl), lamAt_of rfl hn F (by simp [tfs, D_f__law_refused]) B⟩
  b_abs := He.free_ok X G (c.fact 46 (f := .free "abs") rfl)
  b_all := He.free_ok X G (c.fact 47 (f := .free "all") rfl)
  b_bool := He.free_ok X G (c.fact 48 (f := .free "bool") rfl)
  b_enumerate := He.free_ok X G (c.fact 49 (f := .free "enumerate") rfl)
  b_int := He.free_ok X G (c.fact 50 (f := .free "int") rfl)
  b_isinstance := He.free_ok X G (c.fact 51 (f := .free "isinstance") rfl)
  b_len := He.free_ok X G (c.fact 52 (f := .free "len") rfl)
  b_list := He.free_ok X G (c.fact 53 (f := .free "list") rfl)
  b_max := He.free_ok X G (c.fact 54 (f := .free "max") rfl)
  b_min := He.free_ok X G (c.fact 55 (f := .free "min") rfl)
  b_range := He.free_ok X G (c.fact 56 (f := .free "range") rfl)
  b_str := He.free_ok X G (c.fact 57 (f := .free "str") rfl)
  b_tuple := He.free_ok X G (c.fact 58 (f := .free "tuple") rfl)
  b_zip := He.free_ok X G (c.fact 59 (f := .free "zip") rfl)
theorem facts {l : PySem.W.OpenLaw} {w : World} {K : PySem.W.Frag} {h : Heap} {mg : Str → Option Value} {f : Addr} (X : K.In h) (G : h.Ns mainGlobals mg) (hfa : mg ("law" : Str) = some (.ref f)) (cx : He.SaysX faA fnA [] (tfs.map (·.1)) (tabEx tfs) w h K) :
    LamX.LawAtS l w K (L2.CX l.prog w) 10 63 "script" mg f h := by
  have c := cx.t.d
  obtain ⟨fd, F⟩ := c.def_ 38 (d := D_f_law) rfl
  have e := hfa.symm.trans (He.glo_ok X G (c.fact 38 (f := .glo "law") rfl))
  cases e
  have b := FunD.bindsA (ps := ["script"]) F fun _ _ _ _ _ _ us hl => match us, hl with | [_], _ => rfl
  exact lawAt rfl X cx (fun s v => b s [v] rfl) pure_law fun base _ _ B => fn_f_law (tx_of X G c cx.more B) F
end G
open PySem PySem.W PySem.Calls PyProof.Rows
theorem PySem.Challenge.cw_cuesuntold_k02_scripts_with_told_moments_holds : PySem.Challenge.rw_cuesuntold_k02_scripts_with_told_moments.Holds := by
  w_on; o_law
  refine HandSHeadRun.head_any (r := OpenLaw.row PySem.Challenge.rw_cuesuntold_k02_scripts_with_told_moments) (q := view (OpenLaw.row PySem.Challenge.rw_cuesuntold_k02_scripts_with_told_moments).prog [47]) (H := G.hk) (ob := G.ob) (M := 4000) (loose := G.looseA) (d := HandSHeadRun.topDef (OpenLaw.row PySem.Challenge.rw_cuesuntold_k02_scripts_with_told_moments).prog 47) (kwd := []) G.ob_eq
    (by kernel_rfl) (fun s => by kernel_rfl) G.run (by kernel_rfl) (by kernel_rfl) (by kernel_rfl) (by rfl) (by first | assumption | decide +kernel) (by decide +kernel) ⟨rfl, rfl, rfl, rfl, rfl, by decide +kernel⟩ ?hw ?hc
  case hw => w_witness2
  case hc =>
    refine LamX.walk_ofTsE (l := PySem.Challenge.rw_cuesuntold_k02_scripts_with_told_moments) (n := 63) (k := 10) (x := "script") (CX := fun w => L2.CX (PySem.Challenge.rw_cuesuntold_k02_scripts_with_told_moments).prog w) rfl (by decide) (by kernel_rfl) ⟨rfl, by decide, by decide⟩ ?F (fun w H s e s' h => G.cx_no w H s e s' h)
    intro w mg fa h Y G0 hmg0
    obtain ⟨K, KX, c⟩ := Y
    have hmg : mg ("law" : PySem.Str) = some (.ref fa) := by
      have e : (HandSHeadRun.topDef (OpenLaw.row PySem.Challenge.rw_cuesuntold_k02_scripts_with_told_moments).prog 47).name = ("law" : PySem.Str) := by kernel_rfl
      rw [← e]
      exact hmg0
    exact ⟨K, KX, G.facts KX G0 hmg c⟩

end
