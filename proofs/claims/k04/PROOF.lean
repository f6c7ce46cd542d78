import PyProof.Rows.All
import Wide.All
import OpenK.AllK
import Wide.FinOn
import HandS.ForMost
import HandS.ForExc
import HandS.TupAny
import HandS.TupMul
import HandS.Wide
import HandS.IsInst
import HandS.Deep
import HandS.Zip
import HandS.Lambda
import HandS.Conv
import HandS.CallSlots
import HandS.Defaults
import HandS.Style
import KE.GoesMore
import PyProof.EnumMake
import HandS.ExcOwn
import HandS.HeadHook2
import HandS.HeadEnd
import HandS.Head0
import HandS.Head1
import HandS.Head2
import HandS.Flow
import HandS.TryMany
import HandS.CallLocal
import HandS.HeadHook4
import HandS.TupLe
import HandS.HeadWalk
import PySem.Challenge.RW_cuesuntold_k04_whole_forms_rows_and_ring
import KE.KStateDown
import Lean
import HandS.HeadHook1
import HandS.HeadHook3
set_option Elab.async false
set_option linter.all false
set_option maxRecDepth 100000
set_option maxHeartbeats 0
section
/-! A small language of values over the layer: D the values (tuples and lists by content, changeable lists by number), semantic functions over them, and the rules that carry these to the layer's readings. -/
namespace G
open PySem PySem.Spec PyProof.Rows L2

inductive D where
  | non | bl (b : Bool) | int (i : Int) | str (x : Str)
  | tup (l : List D) | lst (l : List D)
  | cel (n : Nat) | obj (n : Nat) | fn (x : Str) | ty (n : String) | scr (l : List Int)

structure Ob where
  cls : Str
  fs : List (Str × D)
structure Sto where
  cel : List (List D) := []
  obj : List Ob := []
/-- an exception: its class, its field -/
structure Xn where
  cls : Str
  val : Option (Str × Int) := none
inductive Res (α : Type) where
  | ok (a : α) (s : Sto)
  | err (x : Xn) (s : Sto)
  | bad
def Res.bind {α β : Type} (r : Res α) (f : α → Sto → Res β) : Res β := match r with
  | .ok a s => f a s
  | .err x s => .err x s
  | .bad => .bad
@[simp] theorem Res.bind_ok {α β : Type} (a : α) (s : Sto) (f : α → Sto → Res β) : (Res.ok a s).bind f = f a s := rfl
@[simp] theorem Res.bind_err {α β : Type} (x : Xn) (s : Sto) (f : α → Sto → Res β) : (Res.err x s : Res α).bind f = .err x s := rfl
@[simp] theorem Res.bind_bad {α β : Type} (f : α → Sto → Res β) : (Res.bad : Res α).bind f = .bad := rfl
def Res.of {α : Type} (s : Sto) : Option α → Res α
  | some a => .ok a s
  | none => .bad
@[simp] theorem Res.of_some {α : Type} (s : Sto) (a : α) : Res.of s (some a) = .ok a s := rfl
@[simp] theorem Res.of_none {α : Type} (s : Sto) : Res.of s (none : Option α) = .bad := rfl

abbrev Env := List (Option D)
abbrev E := Env → Sto → Res D
abbrev EB := Env → Sto → Res Bool
abbrev EL := Env → Sto → Res (List D)

/-! ### the tables of code objects, told of the written part -/
class Tb where
  T : PySem.W.Frag → List (Addr × Str)
variable [Tb]
/-- no object that is told of here -/
def Fr (H : Hp) (a : Addr) : Prop := ∀ o, H a = some o → ∃ ps, o = .tbl ps
theorem Fr.of {H : Hp} {a : Addr} (h : H a = none) : Fr H a := fun o e => by rw [h] at e; cases e
theorem Fr.lst {H : Hp} {a : Addr} {xs : List V} (h : Fr H a) (e : H a = some (.lst xs)) : False := by
  obtain ⟨ps, q⟩ := h _ e
  cases q
theorem Fr.tup {H : Hp} {a : Addr} {xs : List V} (h : Fr H a) (e : H a = some (.tup xs)) : False := by
  obtain ⟨ps, q⟩ := h _ e
  cases q
theorem Fr.ins {H : Hp} {a C d : Addr} {fs : List (Str × V)} (h : Fr H a) (e : H a = some (.ins C d fs)) : False := by
  obtain ⟨ps, q⟩ := h _ e
  cases q
theorem Fr.up {H : Hp} {a b : Addr} {o : HO} (hb : b ≠ a) : Fr (upd H a o) b ↔ Fr H b := by
  unfold Fr
  rw [upd_ne hb]
theorem Fr.lstSame {H : Hp} {a : Addr} {ys : List V} : ¬ Fr (upd H a (.lst ys)) a := fun z => z.lst upd_same
theorem tabs_up {T : List (Addr × Str)} {H : Hp} {a : Addr} {xs ys : List V} (t : LamX.Tabs T H) (h : H a = some (.lst xs)) : LamX.Tabs T (upd H a (.lst ys)) := fun p hp => by
  obtain ⟨ps, h1, h2, h3⟩ := t p hp
  have ne : ∀ b u, H b = some u → (∀ zs, u ≠ .lst zs) → b ≠ a := fun b u e n z => by
    rw [z, h] at e
    exact n xs (Option.some.inj e).symm
  refine ⟨ps, by rw [upd_ne (ne _ _ h1 (fun zs z => by cases z))]; exact h1, h2, fun pos cv hc => ?_⟩
  obtain ⟨c, e1, e2⟩ := h3 pos cv hc
  exact ⟨c, e1, by rw [upd_ne (ne _ _ e2 (fun zs z => by unfold LamX.CodeO at z; cases z))]; exact e2⟩
/-! ### how they lie in the layer's heap -/
structure WM where
  phi : List Addr := []
  av : List Addr := []
  psi : List (Addr × Addr) := []

mutual
/-- no changeable list within -/
def D.pure : D → Bool
  | .cel _ => false
  | .tup l => pureL l
  | .lst l => pureL l
  | _ => true
def pureL : List D → Bool
  | [] => true
  | d :: l => d.pure && pureL l
end

/-- the script: locked, or of the written part -/
def ScrAt (K : PySem.W.Frag) (H : Hp) (a : Addr) (xs : List V) : Prop := (∃ o, H a = some (.frz o (.lst xs))) ∨ SqL K (fun _ => none) a xs
theorem ScrAt.sq {K : PySem.W.Frag} {H : Hp} {a : Addr} {xs : List V} (h : ScrAt K H a xs) : SqL K H a xs := by
  rcases h with ⟨o, h⟩ | ⟨h | ⟨o, h⟩⟩ | h
  · exact .inl (.inr ⟨o, h⟩)
  · cases h
  · cases h
  · exact .inr h
theorem ScrAt.sq' {K : PySem.W.Frag} {H : Hp} {a : Addr} {xs : List V} {p : Prop} (h : ScrAt K H a xs ∨ (H a = some (.lst xs) ∧ p)) : SqL K H a xs := by
  rcases h with h | h
  · exact h.sq
  · exact .inl (.inl h.1)
section
variable (K : PySem.W.Frag) (mg : Str → Option Value)
mutual
def RV (m : WM) (H : Hp) : D → V → Prop
  | .non, v => v = .non
  | .bl b, v => v = .bl b
  | .int i, v => v = .int i
  | .str x, v => v = .str x
  | .tup l, v => ∃ a vs, v = .ref a ∧ H a = some (.tup vs) ∧ l.length ≤ sizeLine ∧ RVs m H l vs
  | .lst l, v => ∃ a vs, v = .ref a ∧ H a = some (.lst vs) ∧ a ∉ m.phi ∧ a ∉ m.av ∧ l.length ≤ sizeLine ∧ RVs m H l vs
  | .cel n, v => ∃ a, v = .ref a ∧ m.phi[n]? = some a
  | .obj n, v => ∃ p, v = .ref p.1 ∧ m.psi[n]? = some p
  | .fn x, v => ∃ f, v = .ref f ∧ mg x = some (.ref f)
  | .ty n, v => v = .ty n
  | .scr l, v => ∃ a, v = .ref a ∧ l.length ≤ sizeLine ∧ (ScrAt K H a (l.map V.int) ∨ (H a = some (.lst (l.map V.int)) ∧ a ∉ m.phi ∧ a ∉ m.av))
def RVs (m : WM) (H : Hp) : List D → List V → Prop
  | [], vs => vs = []
  | d :: l, vs => ∃ v r, vs = v :: r ∧ RV m H d v ∧ RVs m H l r
end

def FsR (m : WM) (H : Hp) (os : List (Str × D)) (fs : List (Str × V)) : Prop :=
  fs.map (·.1) = os.map (·.1) ∧ RVs K mg m H (os.map (·.2)) (fs.map (·.2)) ∧ pureL (os.map (·.2)) = true ∧ os.length ≤ 900

structure Sim (m : WM) (s : Sto) (H : Hp) : Prop where
  cl : m.phi.length = s.cel.length
  nd : m.phi.Nodup
  ce : ∀ (n : Nat) (a : Addr) (xs : List D), m.phi[n]? = some a → s.cel[n]? = some xs → pureL xs = true ∧ xs.length ≤ sizeLine ∧ ∃ vs, H a = some (.lst vs) ∧ RVs K mg m H xs vs
  al : ∀ a ∈ m.av, a ∉ m.phi ∧ ¬ Fr H a
  ol : m.psi.length = s.obj.length
  ob : ∀ (n : Nat) (p : Addr × Addr) (o : Ob), m.psi[n]? = some p → s.obj[n]? = some o → ∃ C fs, mg o.cls = some (.ref C) ∧ H p.1 = some (.ins C p.2 fs) ∧ FsR K mg m H o.fs fs
  on : (m.psi.map (·.1)).Nodup
  tb : LamX.Tabs (Tb.T K) H

/-- how the heap goes on -/
structure Stp (m : WM) (H : Hp) (m' : WM) (H' : Hp) : Prop where
  phi : ∃ l, m'.phi = m.phi ++ l ∧ ∀ a ∈ l, Fr H a
  psi : ∃ l, m'.psi = m.psi ++ l ∧ ∀ p ∈ l, Fr H p.1
  av : m'.av = m.av
  tup : ∀ a xs, H a = some (.tup xs) → H' a = some (.tup xs)
  lst : ∀ a xs, H a = some (.lst xs) → a ∉ m.phi → H' a = some (.lst xs)
  frz : ∀ a o u, H a = some (.frz o u) → H' a = some (.frz o u)
  dom : ∀ a, Fr H' a → Fr H a
/-- the same, but for what is being made -/
structure Wk (m : WM) (H : Hp) (m' : WM) (H' : Hp) : Prop where
  phi : ∃ l, m'.phi = m.phi ++ l ∧ ∀ a ∈ l, Fr H a
  psi : ∃ l, m'.psi = m.psi ++ l
  av : ∀ a ∈ m'.av, a ∈ m.av ∨ Fr H a
  tup : ∀ a xs, H a = some (.tup xs) → H' a = some (.tup xs)
  lst : ∀ a xs, H a = some (.lst xs) → a ∉ m.phi → a ∉ m.av → H' a = some (.lst xs)
  frz : ∀ a o u, H a = some (.frz o u) → H' a = some (.frz o u)
end

section
variable {K : PySem.W.Frag} {mg : Str → Option Value} {m m' m1 m2 : WM} {H H' H1 H2 : Hp}
theorem Stp.refl : Stp m H m H := ⟨⟨[], by simp⟩, ⟨[], by simp⟩, rfl, fun _ _ h => h, fun _ _ h _ => h, fun _ _ _ h => h, fun _ h => h⟩
theorem none_ne {o : HO} {a b : Addr} (h : H a = some o) (h' : H b = none) : a ≠ b := ne_of_none h h'
theorem Stp.trans (x : Stp m H m1 H1) (y : Stp m1 H1 m2 H2) : Stp m H m2 H2 := by
  obtain ⟨l1, p1, q1⟩ := x.phi
  obtain ⟨l2, p2, q2⟩ := y.phi
  obtain ⟨r1, s1, t1⟩ := x.psi
  obtain ⟨r2, s2, t2⟩ := y.psi
  refine ⟨⟨l1 ++ l2, by rw [p2, p1, List.append_assoc], fun a h => ?_⟩, ⟨r1 ++ r2, by rw [s2, s1, List.append_assoc], fun p h => ?_⟩, y.av.trans x.av, fun a xs h => y.tup a xs (x.tup a xs h), fun a xs h n => ?_, fun a o u h => y.frz a o u (x.frz a o u h), fun a h => x.dom a (y.dom a h)⟩
  · rcases List.mem_append.mp h with h | h
    · exact q1 a h
    · exact x.dom a (q2 a h)
  · rcases List.mem_append.mp h with h | h
    · exact t1 p h
    · exact x.dom p.1 (t2 p h)
  · refine y.lst a xs (x.lst a xs h n) ?_
    rw [p1]
    intro z
    rcases List.mem_append.mp z with z | z
    · exact n z
    · exact (q1 a z).lst h
theorem Stp.wk (x : Stp m H m' H') : Wk m H m' H' := ⟨x.phi, let ⟨l, e, _⟩ := x.psi; ⟨l, e⟩, fun a h => .inl (by rw [← x.av]; exact h), x.tup, fun a xs h n _ => x.lst a xs h n, x.frz⟩
theorem Wk.refl : Wk m H m H := Stp.refl.wk
theorem Wk.trans (x : Wk m H m1 H1) (y : Wk m1 H1 m2 H2) (dom : ∀ a, Fr H1 a → Fr H a) : Wk m H m2 H2 := by
  obtain ⟨l1, p1, q1⟩ := x.phi
  obtain ⟨l2, p2, q2⟩ := y.phi
  obtain ⟨r1, s1⟩ := x.psi
  obtain ⟨r2, s2⟩ := y.psi
  refine ⟨⟨l1 ++ l2, by rw [p2, p1, List.append_assoc], fun a h => ?_⟩, ⟨r1 ++ r2, by rw [s2, s1, List.append_assoc]⟩, fun a h => ?_, fun a xs h => y.tup a xs (x.tup a xs h), fun a xs h n n2 => ?_, fun a o u h => y.frz a o u (x.frz a o u h)⟩
  · rcases List.mem_append.mp h with h | h
    · exact q1 a h
    · exact dom a (q2 a h)
  · rcases y.av a h with h | h
    · exact x.av a h
    · exact .inr (dom a h)
  · refine y.lst a xs (x.lst a xs h n n2) ?_ ?_
    · rw [p1]
      intro z
      rcases List.mem_append.mp z with z | z
      · exact n z
      · exact (q1 a z).lst h
    · intro z
      rcases x.av a z with z | z
      · exact n2 z
      · exact z.lst h
mutual
theorem RV.mono (x : Wk m H m' H') : ∀ (d : D) (v : V), RV K mg m H d v → RV K mg m' H' d v
  | .non, _, h => by unfold RV at h ⊢; exact h
  | .bl _, _, h => by unfold RV at h ⊢; exact h
  | .int _, _, h => by unfold RV at h ⊢; exact h
  | .str _, _, h => by unfold RV at h ⊢; exact h
  | .tup l, _, h => by
    unfold RV at h ⊢
    obtain ⟨a, vs, e, h1, hl, h2⟩ := h
    exact ⟨a, vs, e, x.tup a vs h1, hl, RVs.mono x l vs h2⟩
  | .lst l, _, h => by
    unfold RV at h ⊢
    obtain ⟨a, vs, e, h1, n1, n2, hl, h2⟩ := h
    obtain ⟨l1, p1, q1⟩ := x.phi
    refine ⟨a, vs, e, x.lst a vs h1 n1 n2, ?_, ?_, hl, RVs.mono x l vs h2⟩
    · rw [p1]
      intro z
      rcases List.mem_append.mp z with z | z
      · exact n1 z
      · exact (q1 a z).lst h1
    · intro z
      rcases x.av a z with z | z
      · exact n2 z
      · exact z.lst h1
  | .cel n, _, h => by
    unfold RV at h ⊢
    obtain ⟨a, e, h1⟩ := h
    obtain ⟨l1, p1, q1⟩ := x.phi
    refine ⟨a, e, ?_⟩
    rw [p1, List.getElem?_append_left (List.getElem?_eq_some_iff.mp h1).1]
    exact h1
  | .obj n, _, h => by
    unfold RV at h ⊢
    obtain ⟨a, e, h1⟩ := h
    obtain ⟨l1, p1⟩ := x.psi
    refine ⟨a, e, ?_⟩
    rw [p1, List.getElem?_append_left (List.getElem?_eq_some_iff.mp h1).1]
    exact h1
  | .fn _, _, h => by unfold RV at h ⊢; exact h
  | .ty _, _, h => by unfold RV at h ⊢; exact h
  | .scr _, _, h => by
    unfold RV at h ⊢
    obtain ⟨a, e, hl, h1⟩ := h
    rcases h1 with h1 | ⟨h1, n1, n2⟩
    · exact ⟨a, e, hl, .inl (h1.imp (fun ⟨o, q⟩ => ⟨o, x.frz a _ _ q⟩) fun q => q)⟩
    · obtain ⟨l1, p1, q1⟩ := x.phi
      refine ⟨a, e, hl, .inr ⟨x.lst a _ h1 n1 n2, ?_, ?_⟩⟩
      · rw [p1]
        intro z
        rcases List.mem_append.mp z with z | z
        · exact n1 z
        · exact (q1 a z).lst h1
      · intro z
        rcases x.av a z with z | z
        · exact n2 z
        · exact z.lst h1
theorem RVs.mono (x : Wk m H m' H') : ∀ (ds : List D) (vs : List V), RVs K mg m H ds vs → RVs K mg m' H' ds vs
  | [], _, h => by unfold RVs at h ⊢; exact h
  | d :: ds, _, h => by
    unfold RVs at h ⊢
    obtain ⟨v, r, e, h1, h2⟩ := h
    exact ⟨v, r, e, RV.mono x d v h1, RVs.mono x ds r h2⟩
end
theorem RVs.nil {vs : List V} : RVs K mg m H [] vs ↔ vs = [] := by rw [RVs]
theorem RVs.cons {d : D} {ds : List D} {vs : List V} : RVs K mg m H (d :: ds) vs ↔ ∃ v r, vs = v :: r ∧ RV K mg m H d v ∧ RVs K mg m H ds r := by rw [RVs]
theorem RVs.mk {d : D} {ds : List D} {v : V} {vs : List V} (h : RV K mg m H d v) (t : RVs K mg m H ds vs) : RVs K mg m H (d :: ds) (v :: vs) := RVs.cons.mpr ⟨v, vs, rfl, h, t⟩
theorem RVs.length : ∀ {ds : List D} {vs : List V}, RVs K mg m H ds vs → vs.length = ds.length
  | [], _, h => by rw [RVs.nil.mp h]; rfl
  | d :: ds, _, h => by
    obtain ⟨v, r, e, _, h2⟩ := RVs.cons.mp h
    rw [e, List.length_cons, List.length_cons, RVs.length h2]
theorem RVs.get : ∀ {ds : List D} {vs : List V} {i : Nat} {d : D}, RVs K mg m H ds vs → ds[i]? = some d → ∃ v, vs[i]? = some v ∧ RV K mg m H d v
  | [], _, _, _, _, e => by simp at e
  | d :: ds, _, 0, d', h, e => by
    obtain ⟨v, r, e1, h1, _⟩ := RVs.cons.mp h
    simp at e; subst e
    exact ⟨v, by rw [e1]; rfl, h1⟩
  | d :: ds, _, i + 1, d', h, e => by
    obtain ⟨v, r, e1, _, h2⟩ := RVs.cons.mp h
    obtain ⟨w, e2, h3⟩ := RVs.get (i := i) (d := d') h2 (by simpa using e)
    exact ⟨w, by rw [e1]; simpa using e2, h3⟩
theorem RVs.append : ∀ {ds es : List D} {vs ws : List V}, RVs K mg m H ds vs → RVs K mg m H es ws → RVs K mg m H (ds ++ es) (vs ++ ws)
  | [], _, _, _, h, t => by rw [RVs.nil.mp h]; exact t
  | d :: ds, _, _, _, h, t => by
    obtain ⟨v, r, e1, h1, h2⟩ := RVs.cons.mp h
    rw [e1]
    exact RVs.mk h1 (RVs.append h2 t)
theorem RVs.take : ∀ {ds : List D} {vs : List V} (n : Nat), RVs K mg m H ds vs → RVs K mg m H (ds.take n) (vs.take n)
  | _, _, 0, _ => by simp [RVs.nil]
  | [], _, n + 1, h => by rw [RVs.nil.mp h]; simp [RVs.nil]
  | d :: ds, _, n + 1, h => by
    obtain ⟨v, r, e1, h1, h2⟩ := RVs.cons.mp h
    rw [e1]
    exact RVs.mk h1 (RVs.take n h2)
theorem RVs.drop : ∀ {ds : List D} {vs : List V} (n : Nat), RVs K mg m H ds vs → RVs K mg m H (ds.drop n) (vs.drop n)
  | _, _, 0, h => h
  | [], _, n + 1, h => by rw [RVs.nil.mp h]; simp [RVs.nil]
  | d :: ds, _, n + 1, h => by
    obtain ⟨v, r, e1, h1, h2⟩ := RVs.cons.mp h
    rw [e1]
    exact RVs.drop n h2
theorem RVs.set : ∀ {ds : List D} {vs : List V} {d : D} {v : V} (i : Nat), RVs K mg m H ds vs → RV K mg m H d v → RVs K mg m H (ds.set i d) (vs.set i v)
  | [], _, _, _, _, h, _ => by rw [RVs.nil.mp h]; simp [RVs.nil]
  | d :: ds, _, _, _, 0, h, q => by
    obtain ⟨v, r, e1, h1, h2⟩ := RVs.cons.mp h
    rw [e1]
    exact RVs.mk q h2
  | d :: ds, _, _, _, i + 1, h, q => by
    obtain ⟨v, r, e1, h1, h2⟩ := RVs.cons.mp h
    rw [e1]
    exact RVs.mk h1 (RVs.set i h2 q)
theorem RVs.eraseIdx : ∀ {ds : List D} {vs : List V} (i : Nat), RVs K mg m H ds vs → RVs K mg m H (ds.eraseIdx i) (vs.eraseIdx i)
  | [], _, _, h => by rw [RVs.nil.mp h]; simp [RVs.nil]
  | d :: ds, _, 0, h => by
    obtain ⟨v, r, e1, h1, h2⟩ := RVs.cons.mp h
    rw [e1]
    exact h2
  | d :: ds, _, i + 1, h => by
    obtain ⟨v, r, e1, h1, h2⟩ := RVs.cons.mp h
    rw [e1]
    exact RVs.mk h1 (RVs.eraseIdx i h2)
theorem RVs.reverse : ∀ {ds : List D} {vs : List V}, RVs K mg m H ds vs → RVs K mg m H ds.reverse vs.reverse
  | [], _, h => by rw [RVs.nil.mp h]; simp [RVs.nil]
  | d :: ds, _, h => by
    obtain ⟨v, r, e1, h1, h2⟩ := RVs.cons.mp h
    rw [e1, List.reverse_cons, List.reverse_cons]
    exact (RVs.reverse h2).append (RVs.mk h1 (RVs.nil.mpr rfl))
theorem FsR.mono {os : List (Str × D)} {fs : List (Str × V)} (x : Wk m H m' H') (h : FsR K mg m H os fs) : FsR K mg m' H' os fs := ⟨h.1, RVs.mono x _ _ h.2.1, h.2.2⟩

/-! ### only new objects -/
def Grw (H H' : Hp) : Prop := ∀ a o, H a = some o → H' a = some o
theorem Grw.refl : Grw H H := fun _ _ h => h
theorem Grw.trans (x : Grw H H1) (y : Grw H1 H2) : Grw H H2 := fun a o h => y a o (x a o h)
theorem Grw.new {p : Addr} {o : HO} (h : H p = none) : Grw H (upd H p o) := fun a u e => by
  rw [upd_ne (ne_of_none e h)]; exact e
theorem Grw.dom (x : Grw H H') {a : Addr} (h : Fr H' a) : Fr H a := fun o e => h o (x a o e)
theorem Grw.stp (x : Grw H H') : Stp m H m H' := ⟨⟨[], by simp⟩, ⟨[], by simp⟩, rfl, fun a xs h => x a _ h, fun a xs h _ => x a _ h, fun a o u h => x a _ h, fun a h => x.dom h⟩
theorem Sim.grw {s : Sto} (S : Sim K mg m s H) (x : Grw H H') : Sim K mg m s H' := by
  refine ⟨S.cl, S.nd, fun n a xs e1 e2 => ?_, fun a h => ⟨(S.al a h).1, fun z => (S.al a h).2 (x.dom z)⟩, S.ol, fun n p o e1 e2 => ?_, S.on, S.tb.ext x⟩
  · obtain ⟨h0, hz, vs, h1, h2⟩ := S.ce n a xs e1 e2
    exact ⟨h0, hz, vs, x _ _ h1, RVs.mono (Grw.stp x).wk _ _ h2⟩
  · obtain ⟨C, fs, h0, h1, h2⟩ := S.ob n p o e1 e2
    exact ⟨C, fs, h0, x _ _ h1, FsR.mono (Grw.stp x).wk h2⟩
end
end G

end
section
namespace G
open PySem PySem.Spec L2
variable [Tb]
section
variable (K : PySem.W.Frag) (mg : Str → Option Value)
/-- an exception's class and own dict -/
def ExR (H : Hp) (x : Xn) (c : Value) (dx : Option Addr) : Prop := (∃ C, c = .ref C ∧ mg x.cls = some (.ref C)) ∧ match x.val with
  | none => True
  | some (f, i) => ∃ a, dx = some a ∧ H a = some (.xd [(f, .int i)])
def KontG {α β : Type} (R : WM → Hp → Sto → α → β → Prop) (W : XK) (m : WM) (H : Hp) (r : Res α) (Q : β → Hp → Prop) : Prop := match r with
  | .ok a s' => ∀ b m' H', Stp m H m' H' → m'.phi = m.phi → Sim K mg m' s' H' → R m' H' s' a b → Q b H'
  | .err x s' => ∀ c dx m' H', Stp m H m' H' → m'.phi = m.phi → Sim K mg m' s' H' → ExR mg H' x c dx → W c dx H'
  | .bad => False
def FrV (H : Hp) (v : V) : Prop := ∀ a, v = .ref a → Fr H a
/-- fr: a list that is new, which nothing else names -/
def RD (fr : Bool) (H0 : Hp) (m : WM) (H : Hp) (s : Sto) (d : D) (v : V) : Prop := RV K mg m H d v ∧ (fr = true → ∀ l a, d = .lst l → v = .ref a → Fr H0 a ∧ Sim K mg { m with av := a :: m.av } s H ∧ ∃ vs, H a = some (.lst vs) ∧ RVs K mg { m with av := a :: m.av } H l vs)
def EnvR (m : WM) (H : Hp) (env : Env) (σ : St) : Prop := env.length = σ.length ∧ ∀ (i : Nat) (d : D), env[i]? = some (some d) → ∃ v, σ[i]? = some (some v) ∧ RV K mg m H d v
def tE (W : WX) (fr : Bool) (f : E) : TE := fun σ H Q => ∃ m env s, Sim K mg m s H ∧ EnvR K mg m H env σ ∧ KontG K mg (RD K mg fr H) (fun c d H' => W c d σ H') m H (f env s) Q
def tT (W : WX) (g : EB) : TT := fun σ H Q => ∃ m env s, Sim K mg m s H ∧ EnvR K mg m H env σ ∧ KontG K mg (fun _ _ _ a b => a = b) (fun c d H' => W c d σ H') m H (g env s) Q
def tA (W : WX) (n : Nat) (g : EL) : TA := fun σ H Q => ∃ m env s, Sim K mg m s H ∧ EnvR K mg m H env σ ∧ KontG K mg (fun m' H' _ ds vs => RVs K mg m' H' ds vs ∧ ds.length = n) (fun c d H' => W c d σ H') m H (g env s) Q
end
abbrev SE (X : Cx) (W : WX) (fr : Bool) (e : Expr) (f : E) : Prop := PE X e (tE X.K X.mg W fr f)
abbrev ST (X : Cx) (W : WX) (e : Expr) (g : EB) : Prop := PT X e (tT X.K X.mg W g)
abbrev SA (X : Cx) (W : WX) (n : Nat) (es : List Expr) (g : EL) : Prop := PA X es (tA X.K X.mg W n g)
theorem PE.imp {X : Cx} {e : Expr} {t t' : TE} (h : PE X e t) (i : ∀ σ H Q, t' σ H Q → t σ H Q) : PE X e t' := ⟨fun pins s σ H Q I q => h.run pins s σ H Q I (i σ H Q q)⟩
theorem PT.imp {X : Cx} {e : Expr} {t t' : TT} (h : PT X e t) (i : ∀ σ H Q, t' σ H Q → t σ H Q) : PT X e t' := ⟨fun pins s σ H Q I q => h.run pins s σ H Q I (i σ H Q q)⟩
theorem PA.imp {X : Cx} {es : List Expr} {t t' : TA} (h : PA X es t) (i : ∀ σ H Q, t' σ H Q → t σ H Q) : PA X es t' := ⟨fun pos pins s σ H Q I q => h.run pos pins s σ H Q I (i σ H Q q)⟩
theorem PS.imp {X : Cx} {e : Stmt} {t t' : TS} (h : PS X e t) (i : ∀ D σ H, t' D σ H → t D σ H) : PS X e t' := ⟨fun pins s σ H D I q => h.run pins s σ H D I (i D σ H q)⟩
theorem PSs.imp {X : Cx} {e : List Stmt} {t t' : TS} (h : PSs X e t) (i : ∀ D σ H, t' D σ H → t D σ H) : PSs X e t' := ⟨fun pins s σ H D I q => h.run pins s σ H D I (i D σ H q)⟩
section
variable {K : PySem.W.Frag} {mg : Str → Option Value} {m m1 : WM} {H H1 : Hp} {α β γ δ : Type}
theorem EnvR.mono {env : Env} {σ : St} (E : EnvR K mg m H env σ) (x : Wk m H m1 H1) : EnvR K mg m1 H1 env σ := ⟨E.1, fun i d e => let ⟨v, q, r⟩ := E.2 i d e; ⟨v, q, RV.mono x d v r⟩⟩
theorem EnvR.set {env : Env} {σ : St} {d : D} {v : V} (E : EnvR K mg m H env σ) (i : Nat) (h : RV K mg m H d v) : EnvR K mg m H (env.set i (some d)) (σ.set i (some v)) := by
  refine ⟨by simp [E.1], fun j d' e => ?_⟩
  by_cases hj : i = j
  · subst hj
    rw [List.getElem?_set] at e
    have hl : i < env.length := by
      by_cases hh : i < env.length
      · exact hh
      · simp [hh] at e
    simp [hl] at e
    subst e
    refine ⟨v, ?_, h⟩
    rw [List.getElem?_set]
    simp [← E.1, hl]
  · rw [List.getElem?_set_ne hj] at e
    obtain ⟨w, q, r⟩ := E.2 j d' e
    exact ⟨w, by rw [List.getElem?_set_ne hj]; exact q, r⟩
theorem KontG.imp {R : WM → Hp → Sto → α → β → Prop} {W : XK} {r : Res α} {Q Q' : β → Hp → Prop} (h : KontG K mg R W m H r Q) (i : ∀ b H', Q b H' → Q' b H') : KontG K mg R W m H r Q' := by
  cases r with
  | ok a s' => exact fun b m' H' x1 x2 x3 x4 => i _ _ (h b m' H' x1 x2 x3 x4)
  | err x s' => exact h
  | bad => exact h
theorem KontG.move {R R1 : WM → Hp → Sto → α → β → Prop} {W : XK} {r : Res α} {Q : β → Hp → Prop} (h : KontG K mg R W m H r Q) (st : Stp m H m1 H1) (ph : m1.phi = m.phi) (hR : ∀ m' H' s' a b, R1 m' H' s' a b → R m' H' s' a b) : KontG K mg R1 W m1 H1 r Q := by
  cases r with
  | ok a s' => exact fun b m' H' x1 x2 x3 x4 => h b m' H' (st.trans x1) (x2.trans ph) x3 (hR _ _ _ _ _ x4)
  | err x s' => exact fun c dx m' H' x1 x2 x3 x4 => h c dx m' H' (st.trans x1) (x2.trans ph) x3 x4
  | bad => exact h
/-- behind the first part -/
structure After (K : PySem.W.Frag) (mg : Str → Option Value) (R : WM → Hp → Sto → α → β → Prop) (m : WM) (H : Hp) (a : α) (s1 : Sto) (b : β) (m1 : WM) (H1 : Hp) : Prop where
  st : Stp m H m1 H1
  ph : m1.phi = m.phi
  sim : Sim K mg m1 s1 H1
  rel : R m1 H1 s1 a b
theorem KontG.bind {R : WM → Hp → Sto → α → β → Prop} {R' : WM → Hp → Sto → γ → δ → Prop} {W : XK} {r : Res α} {k : α → Sto → Res γ} {Q : δ → Hp → Prop} (h : KontG K mg R' W m H (r.bind k) Q) :
    KontG K mg R W m H r (fun b H1 => ∃ a s1 m1, r = .ok a s1 ∧ After K mg R m H a s1 b m1 H1 ∧ KontG K mg R' W m H (k a s1) Q) := by
  cases r with
  | ok a s' => exact fun b m' H' x1 x2 x3 x4 => ⟨a, s', m', rfl, ⟨x1, x2, x3, x4⟩, h⟩
  | err x s' => exact h
  | bad => exact h
theorem FrV.back {H H1 : Hp} {v : V} (h : FrV H1 v) (dom : ∀ a, Fr H1 a → Fr H a) : FrV H v := fun a e => dom a (h a e)
theorem KontG.moveD {fr : Bool} {W : XK} {r : Res D} {Q : VK} (h : KontG K mg (RD K mg fr H) W m H r Q) (st : Stp m H m1 H1) (ph : m1.phi = m.phi) : KontG K mg (RD K mg fr H1) W m1 H1 r Q :=
  h.move st ph fun _ _ _ _ _ x => ⟨x.1, fun e l a e1 e2 => ⟨st.dom _ (x.2 e l a e1 e2).1, (x.2 e l a e1 e2).2⟩⟩
theorem KontG.ok {R : WM → Hp → Sto → α → β → Prop} {W : XK} {a : α} {b : β} {s : Sto} {Q : β → Hp → Prop} (h : KontG K mg R W m H (.ok a s) Q) (S : Sim K mg m s H) (r : R m H s a b) : Q b H := h b m H Stp.refl rfl S r
theorem KontG.okG {R : WM → Hp → Sto → α → β → Prop} {W : XK} {a : α} {b : β} {s : Sto} {Q : β → Hp → Prop} (h : KontG K mg R W m H (.ok a s) Q) (S : Sim K mg m s H) (g : Grw H H1) (r : R m H1 s a b) : Q b H1 := h b m H1 (Grw.stp g) rfl (S.grw g) r
theorem KontG.of {R : WM → Hp → Sto → α → β → Prop} {W : XK} {s : Sto} {o : Option α} {Q : β → Hp → Prop} (h : KontG K mg R W m H (Res.of s o) Q) : ∃ a, o = some a ∧ KontG K mg R W m H (.ok a s) Q := by
  cases o with
  | none => exact h.elim
  | some a => exact ⟨a, rfl, h⟩
end

/-- a new list, of what stood -/
def NewL (K : PySem.W.Frag) (mg : Str → Option Value) (m : WM) (H H' : Hp) (l : List D) (v : V) : Prop := ∃ a vs, v = .ref a ∧ H a = none ∧ H' a = some (.lst vs) ∧ RVs K mg m H l vs
/-! ### operations by values -/
abbrev G2 := Sto → D → D → Option D
abbrev GL := Sto → List D → Option D
def OkOp (K : PySem.W.Frag) (mg : Str → Option Value) (fr : Bool) (r : R2) (g : G2) : Prop := ∀ m s H x y dx dy d (Q : VK), Sim K mg m s H → RV K mg m H dx x → RV K mg m H dy y → g s dx dy = some d →
  (∀ v H', Grw H H' → RV K mg m H' d v → (fr = true → ∀ l, d = .lst l → NewL K mg m H H' l v) → Q v H') → r x y H Q
def OkU (K : PySem.W.Frag) (mg : Str → Option Value) (fr : Bool) (r : V → Hp → VK → Prop) (g : Sto → D → Option D) : Prop := ∀ m s H x dx d (Q : VK), Sim K mg m s H → RV K mg m H dx x → g s dx = some d →
  (∀ v H', Grw H H' → RV K mg m H' d v → (fr = true → ∀ l, d = .lst l → NewL K mg m H H' l v) → Q v H') → r x H Q
def OkL (K : PySem.W.Frag) (mg : Str → Option Value) (fr : Bool) (r : List V → Hp → VK → Prop) (g : GL) : Prop := ∀ m s H xs ds d (Q : VK), Sim K mg m s H → RVs K mg m H ds xs → g s ds = some d →
  (∀ v H', Grw H H' → RV K mg m H' d v → (fr = true → ∀ l, d = .lst l → NewL K mg m H H' l v) → Q v H') → r xs H Q
def eVar (i : Nat) : E := fun env s => match env[i]? with
  | some (some d) => .ok d s
  | _ => .bad
def eC (d : D) : E := fun _ s => .ok d s
def eOp (g : G2) (a b : E) : E := fun env s => (a env s).bind fun x s1 => (b env s1).bind fun y s2 => Res.of s2 (g s2 x y)
def eUn (g : Sto → D → Option D) (a : E) : E := fun env s => (a env s).bind fun x s1 => Res.of s1 (g s1 x)
def eFn (g : GL) (a : EL) : E := fun env s => (a env s).bind fun xs s1 => Res.of s1 (g s1 xs)
def lNil : EL := fun _ s => .ok [] s
def lCons (a : E) (r : EL) : EL := fun env s => (a env s).bind fun x s1 => (r env s1).bind fun xs s2 => .ok (x :: xs) s2
def asB : D → Option Bool
  | .bl b => some b
  | _ => none
def bVal (a : E) : EB := fun env s => (a env s).bind fun x s1 => Res.of s1 (asB x)
def bNot (a : EB) : EB := fun env s => (a env s).bind fun x s1 => .ok (!x) s1
def bAnd (a b : EB) : EB := fun env s => (a env s).bind fun x s1 => if x = true then b env s1 else .ok false s1
def bOr (a b : EB) : EB := fun env s => (a env s).bind fun x s1 => if x = true then .ok true s1 else b env s1
def eAnd (a b : E) : E := fun env s => (a env s).bind fun x s1 => match x with
  | .bl true => b env s1
  | .bl false => .ok (.bl false) s1
  | _ => .bad
def eOr (a b : E) : E := fun env s => (a env s).bind fun x s1 => match x with
  | .bl true => .ok (.bl true) s1
  | .bl false => b env s1
  | _ => .bad
def eNot (a : E) : E := fun env s => (a env s).bind fun x s1 => match x with
  | .bl c => .ok (.bl (!c)) s1
  | _ => .bad
def eIf (c : EB) (a b : E) : E := fun env s => (c env s).bind fun x s1 => if x = true then a env s1 else b env s1
def eTup (a : EL) : E := fun env s => (a env s).bind fun xs s1 => .ok (.tup xs) s1
def eLst (a : EL) : E := fun env s => (a env s).bind fun xs s1 => .ok (.lst xs) s1
def eChain (g g' : G2) (a b c : E) : E := fun env s => (a env s).bind fun x s1 => (b env s1).bind fun y s2 => (Res.of s2 (g s2 x y)).bind fun z s3 => match z with
  | .bl true => (c env s3).bind fun w s4 => Res.of s4 (g' s4 y w)
  | .bl false => .ok (.bl false) s3
  | _ => .bad

section
variable {X : Cx} {W : WX} {fr fr2 fr3 fr4 : Bool} {e a b c : Expr} {fa fb fc : E} {ga gb : EB} {pos : Pos}
theorem RV.bl' {K mg m H b v} (h : RV K mg m H (.bl b) v) : v = .bl b := by unfold RV at h; exact h
theorem RV.int' {K mg m H b v} (h : RV K mg m H (.int b) v) : v = .int b := by unfold RV at h; exact h
theorem RV.str' {K mg m H b v} (h : RV K mg m H (.str b) v) : v = .str b := by unfold RV at h; exact h
theorem RV.non' {K mg m H v} (h : RV K mg m H .non v) : v = .non := by unfold RV at h; exact h
theorem RV.bl {K mg m H b} : RV K mg m H (.bl b) (.bl b) := by unfold RV; rfl
theorem RV.int {K mg m H b} : RV K mg m H (.int b) (.int b) := by unfold RV; rfl
theorem RV.str {K mg m H b} : RV K mg m H (.str b) (.str b) := by unfold RV; rfl
theorem RV.non {K mg m H} : RV K mg m H .non .non := by unfold RV; rfl
theorem FrV.scalar {H : Hp} {v : V} (h : ∀ a, v ≠ .ref a) : FrV H v := fun a e => absurd e (h a)
/-- a fresh one may be told as any -/
theorem seF (h : SE X W fr e fa) : SE X W false e fa := PE.imp h fun σ H Q ⟨m, env, s, S, E, k⟩ => ⟨m, env, s, S, E, k.move Stp.refl rfl fun _ _ _ _ _ x => ⟨x.1, fun z => nomatch z⟩⟩
theorem se_var {i : Nat} {x : Str} (h : PE X (.Name x pos) (tVar i)) : SE X W false (.Name x pos) (eVar i) := PE.imp h fun σ H Q ⟨m, env, s, S, E, k⟩ => by
  have k' : KontG X.K X.mg (RD X.K X.mg false H) (fun c d H' => W c d σ H') m H (match env[i]? with | some (some d) => .ok d s | _ => .bad) Q := k
  split at k'
  · rename_i d e
    obtain ⟨v, q, r⟩ := E.2 i d e
    exact ⟨v, q, k'.ok S ⟨r, fun z => nomatch z⟩⟩
  · exact k'.elim
theorem se_c {d : D} {v : V} (h : PE X e (tC v)) (hv : ∀ m H, RV X.K X.mg m H d v) (hs : fr = false ∨ ∀ l, d ≠ .lst l) : SE X W fr e (eC d) := PE.imp h fun σ H Q ⟨m, env, s, S, E, k⟩ => k.ok S ⟨hv m H, fun z => by
  rcases hs with hs | hs
  · rw [hs] at z; cases z
  · exact fun l _ e => absurd e (hs l)⟩
theorem se_int {i : Int} {j : Nat} : SE X W true (.Constant (.int i) j pos) (eC (.int i)) := se_c pe_int (fun _ _ => RV.int) (.inr fun _ z => nomatch z)
theorem se_bl {i : Bool} {j : Nat} : SE X W true (.Constant (.bool i) j pos) (eC (.bl i)) := se_c pe_bl (fun _ _ => RV.bl) (.inr fun _ z => nomatch z)
theorem se_str {i : Str} {j : Nat} : SE X W true (.Constant (.str i) j pos) (eC (.str i)) := se_c pe_str (fun _ _ => RV.str) (.inr fun _ z => nomatch z)
theorem se_non {j : Nat} : SE X W true (.Constant .none j pos) (eC .non) := se_c pe_non (fun _ _ => RV.non) (.inr fun _ z => nomatch z)
theorem se_fn {x : Str} {f : Addr} (hg : Gl X x) (hm : X.mg x = some (.ref f)) (hd : (x == ("__debug__" : Str)) = false := by decide) : SE X W false (.Name x pos) (eC (.fn x)) :=
  se_c (pe_glob (v := .ref f) hg hm rfl hd) (fun m H => by unfold RV; exact ⟨f, rfl, hm⟩) (.inl rfl)

theorem wk_new {m : WM} {H H' : Hp} {a : Addr} (g : Grw H H') (hn : H a = none) : Wk m H { m with av := a :: m.av } H' := by
  refine ⟨⟨[], by simp⟩, ⟨[], by simp⟩, fun b hb => ?_, fun b zs hb => g _ _ hb, fun b zs hb _ _ => g _ _ hb, fun b o u hb => g _ _ hb⟩
  rcases List.mem_cons.mp hb with e | hb
  · exact .inr (by rw [e]; exact Fr.of hn)
  · exact .inl hb
/-- what stood does not name what is new -/
theorem Sim.avNew {K : PySem.W.Frag} {mg : Str → Option Value} {m : WM} {s : Sto} {H H' : Hp} {a : Addr} (S : Sim K mg m s H) (g : Grw H H') (hn : H a = none) (hs : ∃ vs, H' a = some (.lst vs)) : Sim K mg { m with av := a :: m.av } s H' := by
  have w := wk_new (m := m) g hn
  refine ⟨S.cl, S.nd, fun n b zs e1 e2 => ?_, fun b hb => ?_, S.ol, fun n p o e1 e2 => ?_, S.on, S.tb.ext g⟩
  · obtain ⟨h0, hz', vs, h1, h2⟩ := S.ce n b zs e1 e2
    exact ⟨h0, hz', vs, g _ _ h1, RVs.mono w _ _ h2⟩
  · rcases List.mem_cons.mp hb with e | hb
    · subst e
      refine ⟨fun z => ?_, fun z => let ⟨_, e⟩ := hs; z.lst e⟩
      obtain ⟨i, hi⟩ := List.mem_iff_getElem?.mp z
      have hl2 : i < s.cel.length := by rw [← S.cl]; exact (List.getElem?_eq_some_iff.mp hi).1
      obtain ⟨_, _, vs, h1, _⟩ := S.ce i b s.cel[i] hi (List.getElem?_eq_getElem hl2)
      rw [hn] at h1; cases h1
    · exact ⟨(S.al b hb).1, fun z => (S.al b hb).2 (g.dom z)⟩
  · obtain ⟨C, fs, h0, h1, h2⟩ := S.ob n p o e1 e2
    exact ⟨C, fs, h0, g _ _ h1, FsR.mono w h2⟩
/-- two parts in a row -/
theorem use2 {K : PySem.W.Frag} {mg : Str → Option Value} {k : D → D → Sto → Res D} {σ : St} {H : Hp} {Q : VK} {P2 : V → V → Hp → Prop} {m : WM} {env : Env} {s : Sto} (S : Sim K mg m s H) (E : EnvR K mg m H env σ)
    (h : KontG K mg (RD K mg fr H) (fun c d H' => W c d σ H') m H ((fa env s).bind fun x s1 => (fb env s1).bind fun y s2 => k x y s2) Q)
    (n : ∀ x y m2 H2 s2 dx dy, Stp m H m2 H2 → m2.phi = m.phi → Sim K mg m2 s2 H2 → EnvR K mg m2 H2 env σ → RV K mg m2 H2 dx x → RV K mg m2 H2 dy y → KontG K mg (RD K mg fr H2) (fun c d H' => W c d σ H') m2 H2 (k dx dy s2) Q → P2 x y H2) :
    tE K mg W false fa σ H fun x H1 => tE K mg W false fb σ H1 fun y H2 => P2 x y H2 := by
  refine ⟨m, env, s, S, E, (h.bind).imp fun x H1 ⟨dx, s1, m1, e1, A, k1⟩ => ?_⟩
  refine ⟨m1, env, s1, A.sim, E.mono A.st.wk, ((k1.moveD A.st A.ph).bind).imp fun y H2 ⟨dy, s2, m2, e2, B, k2⟩ => ?_⟩
  exact n x y m2 H2 s2 dx dy (A.st.trans B.st) (B.ph.trans A.ph) B.sim ((E.mono A.st.wk).mono B.st.wk) (RV.mono B.st.wk _ _ A.rel.1) B.rel.1 (k2.moveD B.st B.ph)
theorem fin_of {K : PySem.W.Frag} {mg : Str → Option Value} {Wx : XK} {m : WM} {H : Hp} {s : Sto} {o : Option D} {Q : VK} (S : Sim K mg m s H) (h : KontG K mg (RD K mg fr H) Wx m H (Res.of s o) Q) :
    ∃ d, o = some d ∧ ∀ v H', Grw H H' → RV K mg m H' d v → (fr = true → ∀ l, d = .lst l → NewL K mg m H H' l v) → Q v H' := by
  obtain ⟨d, e, k⟩ := h.of
  refine ⟨d, e, fun v H' g r q => k.okG S g ⟨r, fun z l a e1 e2 => ?_⟩⟩
  obtain ⟨b, vs, e3, hn, h1, r1⟩ := q z l e1
  subst e2
  cases e3
  exact ⟨Fr.of hn, S.avNew g hn ⟨_, h1⟩, vs, h1, RVs.mono (wk_new g hn) _ _ r1⟩
theorem se_op {op : Operator} {r : R2} {g : G2} (ho : OpR X (binaryOp op) r) (hg : OkOp X.K X.mg fr r g) (ha : SE X W fr2 a fa) (hb : SE X W fr3 b fb) : SE X W fr (.BinOp a op b pos) (eOp g fa fb) := PE.imp (pe_op ho (seF ha) (seF hb)) fun σ H Q ⟨m, env, s, S, E, k⟩ => by
  refine use2 S E k fun x y m2 H2 s2 dx dy _ _ S2 E2 rx ry k2 => ?_
  obtain ⟨d, e, q⟩ := fin_of S2 k2
  exact hg m2 s2 H2 x y dx dy d Q S2 rx ry e q
theorem se_cmp {op : CmpOp} {r : R2} {g : G2} (ho : OpR X (compareOp op) r) (hg : OkOp X.K X.mg fr r g) (ha : SE X W fr2 a fa) (hb : SE X W fr3 b fb) (hm : behindInMarks op b = false) : SE X W fr (.Compare a [op] [b] pos) (eOp g fa fb) :=
  PE.imp (pe_cmpR ho (seF ha) (seF hb) hm) fun σ H Q ⟨m, env, s, S, E, k⟩ => by
    refine use2 S E k fun x y m2 H2 s2 dx dy _ _ S2 E2 rx ry k2 => ?_
    obtain ⟨d, e, q⟩ := fin_of S2 k2
    exact hg m2 s2 H2 x y dx dy d Q S2 rx ry e q
/-- a value as a test -/
theorem tt_of {K : PySem.W.Frag} {mg : Str → Option Value} {σ : St} {H : Hp} {Q : Bool → Hp → Prop} (h : tT K mg W (bVal fa) σ H Q) : tE K mg W false fa σ H fun x H1 => ∃ k, x = .bl k ∧ Q k H1 := by
  obtain ⟨m, env, s, S, E, k⟩ := h
  refine ⟨m, env, s, S, E, (KontG.bind (R := RD K mg false H) k).imp fun x H1 ⟨dx, s1, m1, e1, A, k1⟩ => ?_⟩
  obtain ⟨c, e, k2⟩ := k1.of
  cases dx with
  | bl c' =>
    cases e
    exact ⟨c, A.rel.1.bl', (k2.move A.st A.ph fun _ _ _ _ _ z => z).ok A.sim rfl⟩
  | _ => cases e
theorem st_cmp {op : CmpOp} {r : R2} {g : G2} (ho : OpR X (compareOp op) r) (hg : OkOp X.K X.mg false r g) (ha : SE X W fr2 a fa) (hb : SE X W fr3 b fb) (hm : behindInMarks op b = false) : ST X W (.Compare a [op] [b] pos) (bVal (eOp g fa fb)) :=
  PT.imp (pt_cmpR ho (seF ha) (seF hb) hm) fun σ H Q h => by
    obtain ⟨m, env, s, S, E, k⟩ := tt_of h
    refine use2 (fr := false) S E k fun x y m2 H2 s2 dx dy _ _ S2 E2 rx ry k2 => ?_
    obtain ⟨d, e, q⟩ := fin_of S2 k2
    exact hg m2 s2 H2 x y dx dy d _ S2 rx ry e q
theorem st_val (h : SE X W fr a fa) (he : ∀ whole, isTrue a X.env whole = (do let v ← whole; standAt a.pos; holding [v] (truthy v)) := by intro _; rfl) : ST X W a (bVal fa) := PT.imp (pt_val (seF h) he) fun σ H Q h => tt_of h
theorem st_not (h : ST X W a ga) : ST X W (.UnaryOp .Not a pos) (bNot ga) := PT.imp (pt_not h) fun σ H Q ⟨m, env, s, S, E, k⟩ =>
  ⟨m, env, s, S, E, (KontG.bind k).imp fun x H1 ⟨dx, s1, m1, e1, A, k1⟩ => (k1.move A.st A.ph fun _ _ _ _ _ z => z).ok A.sim (by rw [A.rel])⟩
/-- and, or: the chain's parts -/
def SW (X : Cx) (W : WX) (e : Expr) (g : EB) : Prop := PW X e (tT X.K X.mg W g)
theorem PW.imp {X : Cx} {e : Expr} {t t' : TT} (h : PW X e t) (i : ∀ σ H Q, t' σ H Q → t σ H Q) : PW X e t' := ⟨fun wh pins s σ H Q I q => h.run wh pins s σ H Q I (i σ H Q q)⟩
theorem sw_and1 (h : ST X W a ga) : SW X W (.BoolOp .And [a] pos) ga := pw_and1 h
theorem sw_or1 (h : ST X W a ga) : SW X W (.BoolOp .Or [a] pos) ga := pw_or1 h
theorem sw_and {rest : List Expr} (ha : ST X W a ga) (hb : SW X W (.BoolOp .And (b :: rest) pos) gb) : SW X W (.BoolOp .And (a :: b :: rest) pos) (bAnd ga gb) := PW.imp (pw_and ha hb) fun σ H Q ⟨m, env, s, S, E, k⟩ => by
  refine ⟨m, env, s, S, E, (KontG.bind k).imp fun x H1 ⟨dx, s1, m1, e1, A, k1⟩ => ?_⟩
  have k2 := k1.move A.st A.ph fun _ _ _ _ _ z => z
  have er := A.rel
  subst er
  cases dx with
  | true => exact ⟨m1, env, s1, A.sim, E.mono A.st.wk, k2⟩
  | false => exact k2.ok A.sim rfl
theorem sw_or {rest : List Expr} (ha : ST X W a ga) (hb : SW X W (.BoolOp .Or (b :: rest) pos) gb) : SW X W (.BoolOp .Or (a :: b :: rest) pos) (bOr ga gb) := PW.imp (pw_or ha hb) fun σ H Q ⟨m, env, s, S, E, k⟩ => by
  refine ⟨m, env, s, S, E, (KontG.bind k).imp fun x H1 ⟨dx, s1, m1, e1, A, k1⟩ => ?_⟩
  have k2 := k1.move A.st A.ph fun _ _ _ _ _ z => z
  have er := A.rel
  subst er
  cases dx with
  | true => exact k2.ok A.sim rfl
  | false => exact ⟨m1, env, s1, A.sim, E.mono A.st.wk, k2⟩
theorem SW.st (h : SW X W a ga) : ST X W a ga := PW.pt h
/-- and, or, not as values -/
theorem se_one {op} (h : SE X W fr a fa) : SE X W fr (.BoolOp op [a] pos) fa := pe_one h
theorem se_and {rest : List Expr} (ha : SE X W fr2 a fa) (hb : SE X W fr (.BoolOp .And (b :: rest) pos) fb) : SE X W fr (.BoolOp .And (a :: b :: rest) pos) (eAnd fa fb) := PE.imp (pe_and (seF ha) hb) fun σ H Q ⟨m, env, s, S, E, k⟩ => by
  refine ⟨m, env, s, S, E, (KontG.bind (R := RD X.K X.mg false H) k).imp fun x H1 ⟨dx, s1, m1, e1, A, k1⟩ => ?_⟩
  have k2 := k1.moveD A.st A.ph
  cases dx with
  | bl c =>
    have er := A.rel.1.bl'
    subst er
    cases c with
    | true => exact ⟨true, rfl, m1, env, s1, A.sim, E.mono A.st.wk, k2⟩
    | false => exact ⟨false, rfl, k2.ok A.sim ⟨RV.bl, fun _ _ _ z => nomatch z⟩⟩
  | _ => exact k2.elim
theorem se_or {rest : List Expr} (ha : SE X W fr2 a fa) (hb : SE X W fr (.BoolOp .Or (b :: rest) pos) fb) : SE X W fr (.BoolOp .Or (a :: b :: rest) pos) (eOr fa fb) := PE.imp (pe_or (seF ha) hb) fun σ H Q ⟨m, env, s, S, E, k⟩ => by
  refine ⟨m, env, s, S, E, (KontG.bind (R := RD X.K X.mg false H) k).imp fun x H1 ⟨dx, s1, m1, e1, A, k1⟩ => ?_⟩
  have k2 := k1.moveD A.st A.ph
  cases dx with
  | bl c =>
    have er := A.rel.1.bl'
    subst er
    cases c with
    | true => exact ⟨true, rfl, k2.ok A.sim ⟨RV.bl, fun _ _ _ z => nomatch z⟩⟩
    | false => exact ⟨false, rfl, m1, env, s1, A.sim, E.mono A.st.wk, k2⟩
  | _ => exact k2.elim
theorem se_not (ha : SE X W fr2 a fa) : SE X W true (.UnaryOp .Not a pos) (eNot fa) := PE.imp (pe_not (seF ha)) fun σ H Q ⟨m, env, s, S, E, k⟩ => by
  refine ⟨m, env, s, S, E, (KontG.bind (R := RD X.K X.mg false H) k).imp fun x H1 ⟨dx, s1, m1, e1, A, k1⟩ => ?_⟩
  have k2 := k1.moveD A.st A.ph
  cases dx with
  | bl c =>
    have er := A.rel.1.bl'
    subst er
    exact ⟨c, rfl, k2.ok A.sim ⟨RV.bl, fun _ _ _ z => nomatch z⟩⟩
  | _ => exact k2.elim
theorem se_if (hc : ST X W c ga) (ha : SE X W fr a fa) (hb : SE X W fr b fb) : SE X W fr (.IfExp c a b pos) (eIf ga fa fb) := PE.imp (pe_ifExp hc ha hb) fun σ H Q ⟨m, env, s, S, E, k⟩ => by
  refine ⟨m, env, s, S, E, (KontG.bind k).imp fun x H1 ⟨dx, s1, m1, e1, A, k1⟩ => ?_⟩
  have k2 := k1.moveD A.st A.ph
  have er := A.rel
  subst er
  cases dx with
  | true => exact ⟨m1, env, s1, A.sim, E.mono A.st.wk, k2⟩
  | false => exact ⟨m1, env, s1, A.sim, E.mono A.st.wk, k2⟩
theorem se_un {op : UnaryOp} {r : V → Hp → VK → Prop} {g : Sto → D → Option D} (ho : UnR X (unaryOp op) r) (hg : OkU X.K X.mg fr r g) (ha : SE X W fr2 a fa) : SE X W fr (.UnaryOp op a pos) (eUn g fa) := PE.imp (pe_un ho (seF ha)) fun σ H Q ⟨m, env, s, S, E, k⟩ => by
  refine ⟨m, env, s, S, E, (KontG.bind (R := RD X.K X.mg false H) k).imp fun x H1 ⟨dx, s1, m1, e1, A, k1⟩ => ?_⟩
  obtain ⟨d, e, q⟩ := fin_of A.sim (k1.moveD A.st A.ph)
  exact hg m1 s1 H1 x dx d Q A.sim A.rel.1 e q
theorem se_chain {op op' : CmpOp} {r r' : R2} {g g' : G2} (ho : OpR X (compareOp op) r) (ho' : OpR X (compareOp op') r') (hg : OkOp X.K X.mg true r g) (hg' : OkOp X.K X.mg true r' g') (ha : SE X W fr2 a fa) (hb : SE X W fr3 b fb) (hc : SE X W fr4 c fc)
    (hch : ∀ {ta tb tc : TE}, PE X a ta → PE X b tb → PE X c tc → PE X (.Compare a [op, op'] [b, c] pos) (tChain r r' ta tb tc)) : SE X W true (.Compare a [op, op'] [b, c] pos) (eChain g g' fa fb fc) := PE.imp (hch (seF ha) (seF hb) (seF hc)) fun σ H Q ⟨m, env, s, S, E, k⟩ => by
  refine use2 S E k fun x y m2 H2 s2 dx dy st2 ph2 S2 E2 rx ry k2 => ?_
  have k3 := KontG.bind (R := RD X.K X.mg true H2) k2
  obtain ⟨d, e, q⟩ := fin_of S2 k3
  refine hg m2 s2 H2 x y dx dy d _ S2 rx ry e fun v H3 g3 r3 f3 => ?_
  obtain ⟨d', s3, m3, e3, A, k4⟩ := q v H3 g3 r3 f3
  have k5 := k4.moveD A.st A.ph
  cases d' with
  | bl c =>
    have er := A.rel.1.bl'
    subst er
    refine ⟨c, rfl, ?_⟩
    cases c with
    | true =>
      rw [if_pos rfl]
      refine ⟨m3, env, s3, A.sim, E2.mono A.st.wk, (KontG.bind (R := RD X.K X.mg false H3) k5).imp fun w H4 ⟨dw, s4, m4, e4, B, k6⟩ => ?_⟩
      obtain ⟨d4, e4, q4⟩ := fin_of B.sim (k6.moveD B.st B.ph)
      exact hg' m4 s4 H4 y w dy dw d4 Q B.sim (RV.mono B.st.wk _ _ (RV.mono A.st.wk _ _ ry)) B.rel.1 e4 q4
    | false =>
      rw [if_neg (by decide)]
      exact k5.ok A.sim ⟨RV.bl, fun _ _ _ z => nomatch z⟩
  | _ => exact k5.elim

/-! argument lists, displays -/
variable {es : List Expr} {gl : EL} {n : Nat}
theorem sa_nil : SA X W 0 [] lNil := PA.imp pa_nil fun σ H Q ⟨m, env, s, S, E, k⟩ => k.ok S ⟨RVs.nil.mpr rfl, rfl⟩
theorem sa_cons (ha : SE X W fr e fa) (hr : SA X W n es gl) (hs : starEach (e :: es) X.env = (false, eval e X.env) :: starEach es X.env := by rfl) : SA X W (n + 1) (e :: es) (lCons fa gl) := PA.imp (pa_cons (seF ha) hr hs) fun σ H Q ⟨m, env, s, S, E, k⟩ => by
  refine ⟨m, env, s, S, E, (KontG.bind (R := RD X.K X.mg false H) k).imp fun x H1 ⟨dx, s1, m1, e1, A, k1⟩ => ?_⟩
  refine ⟨m1, env, s1, A.sim, E.mono A.st.wk, (KontG.bind (k1.move A.st A.ph fun _ _ _ _ _ z => z)).imp fun xs H2 ⟨dxs, s2, m2, e2, B, k2⟩ => ?_⟩
  exact (k2.move B.st B.ph fun _ _ _ _ _ z => z).ok B.sim ⟨RVs.mk (RV.mono B.st.wk _ _ A.rel.1) B.rel.1, by rw [List.length_cons, B.rel.2]⟩
theorem line1000 {n : Nat} (h : n ≤ 1000) : n ≤ sizeLine := Nat.le_trans h (by decide)
theorem RVs.grw {K mg m H H' ds vs} (h : RVs K mg m H ds vs) (g : Grw H H') : RVs K mg m H' ds vs := RVs.mono (Grw.stp g).wk _ _ h
theorem RV.grw {K mg m H H' d v} (h : RV K mg m H d v) (g : Grw H H') : RV K mg m H' d v := RV.mono (Grw.stp g).wk _ _ h
theorem RV.newT {K mg m H ds vs} {p : Addr} (h : RVs K mg m H ds vs) (hp : H p = none) (hl : ds.length ≤ sizeLine) : RV K mg m (upd H p (.tup vs)) (.tup ds) (.ref p) := by
  unfold RV
  exact ⟨p, vs, rfl, upd_same, hl, h.grw (Grw.new hp)⟩
theorem Sim.noPhi {K mg m s H} (S : Sim K mg m s H) {p : Addr} (hp : H p = none) : p ∉ m.phi := fun z => by
  obtain ⟨i, hi⟩ := List.mem_iff_getElem?.mp z
  have hl := (List.getElem?_eq_some_iff.mp hi).1
  have hl2 : i < s.cel.length := by rw [← S.cl]; exact hl
  obtain ⟨_, _, vs, h1, _⟩ := S.ce i p s.cel[i] hi (List.getElem?_eq_getElem hl2)
  rw [hp] at h1; cases h1
theorem Sim.noAv {K mg m s H} (S : Sim K mg m s H) {p : Addr} (hp : H p = none) : p ∉ m.av := fun z => (S.al p z).2 (Fr.of hp)
theorem RV.newL {K mg m s H ds vs} {p : Addr} (S : Sim K mg m s H) (h : RVs K mg m H ds vs) (hp : H p = none) (hl : ds.length ≤ sizeLine) : RV K mg m (upd H p (.lst vs)) (.lst ds) (.ref p) := by
  unfold RV
  exact ⟨p, vs, rfl, upd_same, S.noPhi hp, S.noAv hp, hl, h.grw (Grw.new hp)⟩
theorem fr_new {H : Hp} {p : Addr} (hp : H p = none) : FrV H (.ref p) := fun a e => by cases e; exact Fr.of hp
theorem se_tup {x1} (h : SA X W n es gl) (hn : n ≤ 1000 := by decide) : SE X W true (.Tuple es x1 pos) (eTup gl) := PE.imp (pe_tup h) fun σ H Q ⟨m, env, s, S, E, k⟩ => by
  refine ⟨m, env, s, S, E, (KontG.bind k).imp fun xs H1 ⟨dxs, s1, m1, e1, A, k1⟩ => ?_⟩
  have hl : dxs.length ≤ sizeLine := line1000 (by rw [A.rel.2]; exact hn)
  refine ⟨by rw [A.rel.1.length]; exact hl, fun p hp => ?_⟩
  exact (k1.moveD A.st A.ph).okG A.sim (Grw.new hp) ⟨RV.newT A.rel.1 hp hl, fun _ _ _ z => nomatch z⟩
theorem se_lst (h : SA X W n es gl) (hn : n ≤ 1000 := by decide) : SE X W true (.List es pos) (eLst gl) := PE.imp (pe_lst h) fun σ H Q ⟨m, env, s, S, E, k⟩ => by
  refine ⟨m, env, s, S, E, (KontG.bind k).imp fun xs H1 ⟨dxs, s1, m1, e1, A, k1⟩ => ?_⟩
  have hl : dxs.length ≤ sizeLine := line1000 (by rw [A.rel.2]; exact hn)
  refine ⟨by rw [A.rel.1.length]; exact hl, fun p hp => ?_⟩
  exact (k1.moveD A.st A.ph).okG A.sim (Grw.new hp) ⟨RV.newL A.sim A.rel.1 hp hl, fun _ l a _ e2 => by cases e2; cases ‹D.lst dxs = D.lst l›; exact ⟨Fr.of hp, A.sim.avNew (Grw.new hp) hp ⟨_, upd_same⟩, xs, upd_same, RVs.mono (wk_new (Grw.new hp) hp) _ _ A.rel.1⟩⟩
/-- a built-in's call -/
theorem se_callB {id : String} {x : Str} {p : Pos} {r : List V → Hp → VK → Prop} {g : GL} (hc : CallR X (.builtin id) r) (hg : OkL X.K X.mg fr r g) (hgl : Gl X x) (hm : X.mg x = none) (hv : bootBuiltins x = some (.builtin id)) (ha : SA X W n (e :: es) gl) (hn : x ≠ "__name__" := by decide) (hdb : (x == ("__debug__" : Str)) = false := by decide)
    (he : starEach (e :: es) X.env = (false, eval e X.env) :: starEach es X.env := by rfl) (hpl : (backTo pos (starEach es X.env)).any (·.1) = false := by rfl) : SE X W fr (.Call (.Name x p) (e :: es) [] pos) (eFn g gl) :=
  PE.imp (pe_callB hc hgl hm hv ha hn hdb he hpl) fun σ H Q ⟨m, env, s, S, E, k⟩ => by
    refine ⟨m, env, s, S, E, (KontG.bind k).imp fun xs H1 ⟨dxs, s1, m1, e1, A, k1⟩ => ?_⟩
    obtain ⟨d, e, q⟩ := fin_of A.sim (k1.moveD A.st A.ph)
    exact hg m1 s1 H1 xs dxs d Q A.sim A.rel.1 e q
theorem se_callTy {T : String} {x : Str} {p : Pos} {r : List V → Hp → VK → Prop} {g : GL} (hc : CallR X (.type T) r) (hg : OkL X.K X.mg fr r g) (hgl : Gl X x) (hm : X.mg x = none) (hv : bootBuiltins x = some (.type T)) (ha : SA X W n (e :: es) gl) (hn : x ≠ "__name__" := by decide) (hdb : (x == ("__debug__" : Str)) = false := by decide)
    (he : starEach (e :: es) X.env = (false, eval e X.env) :: starEach es X.env := by rfl) (hpl : (backTo pos (starEach es X.env)).any (·.1) = false := by rfl) : SE X W fr (.Call (.Name x p) (e :: es) [] pos) (eFn g gl) :=
  PE.imp (pe_callTy hc hgl hm hv ha hn hdb he hpl) fun σ H Q ⟨m, env, s, S, E, k⟩ => by
    refine ⟨m, env, s, S, E, (KontG.bind k).imp fun xs H1 ⟨dxs, s1, m1, e1, A, k1⟩ => ?_⟩
    obtain ⟨d, e, q⟩ := fin_of A.sim (k1.moveD A.st A.ph)
    exact hg m1 s1 H1 xs dxs d Q A.sim A.rel.1 e q
end
end G

end
section
namespace G
open PySem PySem.Spec L2
variable [Tb]
/-! ### statements -/
inductive Fl where
  | nx | bk | ct | rt (d : D)
inductive SRes where
  | ok (f : Fl) (env : Env) (s : Sto)
  | err (x : Xn) (env : Env) (s : Sto)
  | bad
abbrev SM := Env → Sto → SRes
/-- an expression's value, in a statement -/
def Res.st {α : Type} (r : Res α) (env : Env) (f : α → Sto → SRes) : SRes := match r with
  | .ok a s => f a s
  | .err x s => .err x env s
  | .bad => .bad
@[simp] theorem Res.st_ok {α : Type} (a : α) (s : Sto) (env : Env) (f : α → Sto → SRes) : (Res.ok a s).st env f = f a s := rfl
@[simp] theorem Res.st_err {α : Type} (x : Xn) (s : Sto) (env : Env) (f : α → Sto → SRes) : (Res.err x s : Res α).st env f = .err x env s := rfl
@[simp] theorem Res.st_bad {α : Type} (env : Env) (f : α → Sto → SRes) : (Res.bad : Res α).st env f = .bad := rfl
/-- goes on where the first part ends by itself -/
def SRes.seq (r : SRes) (g : SM) : SRes := match r with
  | .ok .nx env s => g env s
  | .ok f env s => .ok f env s
  | .err x env s => .err x env s
  | .bad => .bad
@[simp] theorem SRes.seq_nx (env : Env) (s : Sto) (g : SM) : (SRes.ok .nx env s).seq g = g env s := rfl
@[simp] theorem SRes.seq_rt (d : D) (env : Env) (s : Sto) (g : SM) : (SRes.ok (.rt d) env s).seq g = .ok (.rt d) env s := rfl
@[simp] theorem SRes.seq_bk (env : Env) (s : Sto) (g : SM) : (SRes.ok .bk env s).seq g = .ok .bk env s := rfl
@[simp] theorem SRes.seq_ct (env : Env) (s : Sto) (g : SM) : (SRes.ok .ct env s).seq g = .ok .ct env s := rfl
@[simp] theorem SRes.seq_err (x : Xn) (env : Env) (s : Sto) (g : SM) : (SRes.err x env s).seq g = .err x env s := rfl
@[simp] theorem SRes.seq_bad (g : SM) : SRes.bad.seq g = .bad := rfl
def sSeq (g h : SM) : SM := fun env s => (g env s).seq h
def sNx : SM := fun env s => .ok .nx env s
def sBk : SM := fun env s => .ok .bk env s
def sCt : SM := fun env s => .ok .ct env s
def sRet (f : E) : SM := fun env s => (f env s).st env fun d s1 => .ok (.rt d) env s1
def sRetN : SM := fun env s => .ok (.rt .non) env s
def sDrop (f : E) : SM := fun env s => (f env s).st env fun _ s1 => .ok .nx env s1
def sIf (c : EB) (a b : SM) : SM := fun env s => (c env s).st env fun x s1 => if x = true then a env s1 else b env s1
def sSet (i : Nat) (f : E) : SM := fun env s => (f env s).st env fun d s1 => .ok .nx (env.set i (some d)) s1
def sBad : SM := fun _ _ => .bad
/-- a target's pattern -/
inductive Pat where
  | nm (i : Nat)
  | tp (l : List Pat)
mutual
def Pat.bind : Pat → D → Env → Option Env
  | .nm i, d, env => some (env.set i (some d))
  | .tp l, .tup ds, env => Pat.binds l ds env
  | .tp _, _, _ => none
def Pat.binds : List Pat → List D → Env → Option Env
  | [], [], env => some env
  | p :: l, d :: ds, env => (Pat.bind p d env).bind fun env' => Pat.binds l ds env'
  | _, _, _ => none
end
def sPat (p : Pat) (f : E) : SM := fun env s => (f env s).st env fun d s1 => match p.bind d env with
  | some env' => .ok .nx env' s1
  | none => .bad
mutual
def Pat.slots : Pat → List Nat
  | .nm i => [i]
  | .tp l => Pat.slotsL l
def Pat.slotsL : List Pat → List Nat
  | [] => []
  | p :: l => Pat.slots p ++ Pat.slotsL l
end
/-- turn by turn -/
def forL (p : Pat) (body : SM) : List D → SM
  | [], env, s => .ok .nx env s
  | d :: ds, env, s => match p.bind d env with
    | none => .bad
    | some env1 => match body env1 s with
      | .ok .nx env2 s2 => forL p body ds env2 s2
      | .ok .ct env2 s2 => forL p body ds env2 s2
      | .ok .bk env2 s2 => .ok .nx env2 s2
      | .ok (.rt d) env2 s2 => .ok (.rt d) env2 s2
      | .err x env2 s2 => .err x env2 s2
      | .bad => .bad
def sFor (p : Pat) (it : EL) (body : SM) : SM := fun env s => (it env s).st env fun ds s1 => forL p body ds env s1
/-- at most n turns -/
def whileN (c : EB) (body : SM) : Nat → SM
  | 0, _, _ => .bad
  | n + 1, env, s => (c env s).st env fun b s1 => if b = true then
      match body env s1 with
      | .ok .nx env2 s2 => whileN c body n env2 s2
      | .ok .ct env2 s2 => whileN c body n env2 s2
      | .ok .bk env2 s2 => .ok .nx env2 s2
      | .ok (.rt d) env2 s2 => .ok (.rt d) env2 s2
      | .err x env2 s2 => .err x env2 s2
      | .bad => .bad
    else .ok .nx env s1
def sWhile (c : EB) (body : SM) (fuel : Env → Nat) : SM := fun env s => whileN c body (fuel env) env s
/-- a comprehension -/
def lcL (p : Pat) (t : EB) (f : E) (env : Env) : List D → Sto → Res (List D)
  | [], s => .ok [] s
  | d :: ds, s => match p.bind d env with
    | none => .bad
    | some env1 => match t env1 s with
      | .ok true s1 => (match f env1 s1 with
        | .ok y s2 => (lcL p t f env ds s2).bind fun ys s3 => .ok (y :: ys) s3
        | _ => .bad)
      | .ok false s1 => lcL p t f env ds s1
      | _ => .bad
def wipeE (env : Env) : List Nat → Env
  | [] => env
  | v :: vs => (wipeE env vs).set v none
def bYes : EB := fun _ s => .ok true s
def eLc (own : List Nat) (p : Pat) (it : EL) (t : EB) (f : E) : E := fun env s => (it env s).bind fun ds s1 => (lcL p t f (wipeE env own) ds s1).bind fun ys s2 => .ok (.lst ys) s2

section
variable (K : PySem.W.Frag) (mg : Str → Option Value)
/-- fr: what is returned is new; cf: new changeable lists may be made -/
def KontS (W : WX) (fr cf : Bool) (m : WM) (H : Hp) (r : SRes) (D : Ends) : Prop := match r with
  | .ok fl env' s' => ∀ m' σ' H', Stp m H m' H' → (cf = false → m'.phi = m.phi) → Sim K mg m' s' H' → EnvR K mg m' H' env' σ' → (match fl with
    | .nx => D.nx σ' H'
    | .bk => D.bk σ' H'
    | .ct => D.ct σ' H'
    | .rt d => ∀ v, RD K mg fr H m' H' s' d v → D.rt v H')
  | .err x env' s' => ∀ c dx m' σ' H', Stp m H m' H' → (cf = false → m'.phi = m.phi) → Sim K mg m' s' H' → EnvR K mg m' H' env' σ' → ExR mg H' x c dx → W c dx σ' H'
  | .bad => False
def tS (W : WX) (fr cf : Bool) (g : SM) : TS := fun D σ H => ∃ m env s, Sim K mg m s H ∧ EnvR K mg m H env σ ∧ KontS K mg W fr cf m H (g env s) D
/-- what an iterator gives, at whatever heap behind -/
def ItOk (m : WM) (H : Hp) (J : It) (ds : List D) : Prop := ds.length ≤ sizeLine ∧ ∀ (i : Nat) m2 H2, Wk m H m2 H2 →
  (∀ d, ds[i]? = some d → J.go i H2 ∧ ∀ x H3, J.yld i H2 x H3 → Grw H2 H3 ∧ RV K mg m2 H3 d x) ∧ (i = ds.length → J.stop i H2)
def tI (W : WX) (g : EL) : TI := fun σ H R => ∃ m env s, Sim K mg m s H ∧ EnvR K mg m H env σ ∧ KontG K mg (fun m' H' _ ds J => ItOk K mg m' H' J ds) (fun c d H' => W c d σ H') m H (g env s) R
/-- unlike at the slots alone -/
def OutS (l : List Nat) (σ σ' : L2.St) : Prop := σ'.length = σ.length ∧ ∀ i : Nat, i ∉ l → σ'[i]? = σ[i]?
def tG (p : Pat) : TG := fun v σ H Q => ∃ m d env env', RV K mg m H d v ∧ EnvR K mg m H env σ ∧ p.bind d env = some env' ∧ ∀ σ', EnvR K mg m H env' σ' → OutS p.slots σ σ' → Q σ' H
def tGs (l : List Pat) : TGs := fun vs σ H Q => ∃ m ds env env', RVs K mg m H ds vs ∧ EnvR K mg m H env σ ∧ Pat.binds l ds env = some env' ∧ ∀ σ', EnvR K mg m H env' σ' → OutS (Pat.slotsL l) σ σ' → Q σ' H
end
abbrev SS (X : Cx) (W : WX) (fr cf : Bool) (e : Stmt) (g : SM) : Prop := PS X e (tS X.K X.mg W fr cf g)
abbrev SSs (X : Cx) (W : WX) (fr cf : Bool) (es : List Stmt) (g : SM) : Prop := PSs X es (tS X.K X.mg W fr cf g)
abbrev SI (X : Cx) (W : WX) (tg it : Expr) (g : EL) : Prop := PI X tg it (tI X.K X.mg W g)
abbrev SG (X : Cx) (e : Expr) (p : Pat) : Prop := PG X e (tG X.K X.mg p)
theorem PI.imp {X : Cx} {tg it : Expr} {t t' : TI} (h : PI X tg it t) (i : ∀ σ H R, t' σ H R → t σ H R) : PI X tg it t' := ⟨fun pins s σ H R I q => h.run pins s σ H R I (i σ H R q)⟩
theorem PG.imp {X : Cx} {e : Expr} {t t' : TG} (h : PG X e t) (i : ∀ v σ H Q, t' v σ H Q → t v σ H Q) : PG X e t' := ⟨fun pins s σ H v u Q I r q => h.run pins s σ H v u Q I r (i v σ H Q q)⟩
theorem PGs.imp {X : Cx} {e : List Expr} {t t' : TGs} (h : PGs X e t) (i : ∀ v σ H Q, t' v σ H Q → t v σ H Q) : PGs X e t' := ⟨fun pins s σ H v u Q I r q => h.run pins s σ H v u Q I r (i v σ H Q q)⟩
section
variable {K : PySem.W.Frag} {mg : Str → Option Value} {W : WX} {fr cf : Bool} {m m1 : WM} {H H1 : Hp} {σ : L2.St} {env : Env} {s : Sto}
theorem KontS.move {r : SRes} {D : Ends} (h : KontS K mg W fr cf m H r D) (st : Stp m H m1 H1) (ph : cf = false → m1.phi = m.phi) : KontS K mg W fr cf m1 H1 r D := by
  cases r with
  | ok fl env' s' =>
    intro m' σ' H' x1 x2 x3 x4
    have q := h m' σ' H' (st.trans x1) (fun e => (x2 e).trans (ph e)) x3 x4
    cases fl with
    | rt d => exact fun v r => q v ⟨r.1, fun e l a e1 e2 => ⟨st.dom _ (r.2 e l a e1 e2).1, (r.2 e l a e1 e2).2⟩⟩
    | nx => exact q
    | bk => exact q
    | ct => exact q
  | err x env' s' => exact fun c dx m' σ' H' x1 x2 x3 x4 x5 => h c dx m' σ' H' (st.trans x1) (fun e => (x2 e).trans (ph e)) x3 x4 x5
  | bad => exact h
theorem KontS.nx {D : Ends} (h : KontS K mg W fr cf m H (.ok .nx env s) D) (S : Sim K mg m s H) (E : EnvR K mg m H env σ) : D.nx σ H := h m σ H Stp.refl (fun _ => rfl) S E
/-- an expression ahead -/
theorem KontS.st {α β : Type} {R : WM → Hp → Sto → α → β → Prop} {r : Res α} {k : α → Sto → SRes} {D : Ends} (h : KontS K mg W fr cf m H (r.st env k) D) (E : EnvR K mg m H env σ) :
    KontG K mg R (fun c d H' => W c d σ H') m H r fun b H1 => ∃ a s1 m1, r = .ok a s1 ∧ After K mg R m H a s1 b m1 H1 ∧ EnvR K mg m1 H1 env σ ∧ KontS K mg W fr cf m1 H1 (k a s1) D := by
  cases r with
  | ok a s' => exact fun b m' H' x1 x2 x3 x4 => ⟨a, s', m', rfl, ⟨x1, x2, x3, x4⟩, E.mono x1.wk, KontS.move h x1 fun _ => x2⟩
  | err x s' => exact fun c dx m' H' x1 x2 x3 x4 => h c dx m' σ H' x1 (fun _ => x2) x3 (E.mono x1.wk) x4
  | bad => exact h
end
section
variable {X : Cx} {W : WX} {fr cf fr2 fr3 : Bool} {e a b c : Expr} {fa fb fc : E} {ga gb : EB} {pos : Pos} {st : Stmt} {sts rest body : List Stmt} {g h : SM}
theorem ss_cf (h : SS X W fr false st g) : SS X W fr cf st g := PS.imp h fun D σ H ⟨m, env, s, S, E, k⟩ => ⟨m, env, s, S, E, by
  revert k
  cases (g env s) with
  | ok fl env' s' => exact fun k m' σ' H' x1 x2 x3 x4 => k m' σ' H' x1 (fun _ => x2 rfl) x3 x4
  | err x env' s' => exact fun k c dx m' σ' H' x1 x2 x3 x4 x5 => k c dx m' σ' H' x1 (fun _ => x2 rfl) x3 x4 x5
  | bad => exact fun k => k⟩
theorem sss_nil : SSs X W fr cf [] sNx := PSs.imp pss_nil fun D σ H ⟨m, env, s, S, E, k⟩ => k.nx S E
theorem sss_cons (h1 : SS X W fr cf st g) (h2 : SSs X W fr cf rest h) : SSs X W fr cf (st :: rest) (sSeq g h) := PSs.imp (pss_cons h1 h2) fun D σ H ⟨m, env, s, S, E, k⟩ => by
  refine ⟨m, env, s, S, E, ?_⟩
  have k' : KontS X.K X.mg W fr cf m H ((g env s).seq h) D := k
  revert k'
  cases (g env s) with
  | ok fl env' s' =>
    cases fl with
    | nx => exact fun k m' σ' H' x1 x2 x3 x4 => ⟨m', env', s', x3, x4, k.move x1 x2⟩
    | rt d => exact fun k => k
    | bk => exact fun k => k
    | ct => exact fun k => k
  | err x env' s' => exact fun k => k
  | bad => exact fun k => k
theorem sss_one (h1 : SS X W fr cf st g) : SSs X W fr cf [st] g := pss_one h1
theorem ss_pass : SS X W fr cf (.Pass pos) sNx := PS.imp ps_pass fun D σ H ⟨m, env, s, S, E, k⟩ => k.nx S E
theorem ss_break : SS X W fr cf (.Break pos) sBk := PS.imp ps_break fun D σ H ⟨m, env, s, S, E, k⟩ => k m σ H Stp.refl (fun _ => rfl) S E
theorem ss_continue : SS X W fr cf (.Continue pos) sCt := PS.imp ps_continue fun D σ H ⟨m, env, s, S, E, k⟩ => k m σ H Stp.refl (fun _ => rfl) S E
theorem ss_ret (he : SE X W fr e fa) : SS X W fr cf (.Return (some e) pos) (sRet fa) := PS.imp (ps_ret he) fun D σ H ⟨m, env, s, S, E, k⟩ => by
  refine ⟨m, env, s, S, E, (KontS.st k E).imp fun v H1 ⟨d, s1, m1, e1, A, E1, k1⟩ => ?_⟩
  have k' : KontS X.K X.mg W fr cf m H ((fa env s).st env fun d s1 => .ok (.rt d) env s1) D := k
  rw [e1] at k'
  exact k' m1 σ H1 A.st (fun _ => A.ph) A.sim E1 v A.rel
theorem ss_retN : SS X W fr cf (.Return none pos) sRetN := PS.imp ps_retN fun D σ H ⟨m, env, s, S, E, k⟩ => k m σ H Stp.refl (fun _ => rfl) S E .non ⟨RV.non, fun _ _ _ z => nomatch z⟩
theorem ss_drop (he : SE X W fr2 e fa) (hs : swapsWith e none pos.line X.env = pure false := by rfl) : SS X W fr cf (.Expr e pos) (sDrop fa) := PS.imp (ps_expr (seF he) hs) fun D σ H ⟨m, env, s, S, E, k⟩ => by
  refine ⟨m, env, s, S, E, (KontS.st k E).imp fun v H1 ⟨d, s1, m1, e1, A, E1, k1⟩ => k1.nx A.sim E1⟩
theorem ss_if {sa sb : List Stmt} (hc : ST X W c ga) (ha : SSs X W fr cf sa g) (hb : SSs X W fr cf sb h) : SS X W fr cf (.If c sa sb pos) (sIf ga g h) := PS.imp (ps_if hc ha hb) fun D σ H ⟨m, env, s, S, E, k⟩ => by
  refine ⟨m, env, s, S, E, (KontS.st k E).imp fun x H1 ⟨d, s1, m1, e1, A, E1, k1⟩ => ?_⟩
  have er := A.rel
  subst er
  cases d with
  | true => exact ⟨m1, env, s1, A.sim, E1, k1⟩
  | false => exact ⟨m1, env, s1, A.sim, E1, k1⟩
theorem ss_set {i : Nat} {x : Str} {pos' : Pos} (hN : X.N.Nodup) (hi : X.N[i]? = some x) (hx : Loc X.env.scope x) (he : SE X W fr2 e fa) (hs : swapsWith e (some (.Name x pos')) pos.line X.env = pure false := by rfl) (hf : X.fn x = true ∨ X.env.scope.names.lookup x = some .local := by first | exact .inl rfl | exact .inr rfl) :
    SS X W fr cf (.Assign [.Name x pos'] e pos) (sSet i fa) := PS.imp (ps_set hN hi hx (seF he) hs hf) fun D σ H ⟨m, env, s, S, E, k⟩ => by
  refine ⟨m, env, s, S, E, (KontS.st k E).imp fun x H1 ⟨d, s1, m1, e1, A, E1, k1⟩ => ?_⟩
  exact k1.nx A.sim (E1.set i A.rel.1)
/-! targets -/
theorem sg_name {i : Nat} {x : Str} (hN : X.N.Nodup) (hi : X.N[i]? = some x) (hx : Loc X.env.scope x) (hf : X.fn x = true ∨ X.env.scope.names.lookup x = some .local := by first | exact .inl rfl | exact .inr rfl) : SG X (.Name x pos) (.nm i) :=
  PG.imp (pg_name hN hi hx hf) fun v σ H Q ⟨m, d, env, env', r, E, e, k⟩ => by
    have e' : some (env.set i (some d)) = some env' := by rw [← e]; unfold Pat.bind; rfl
    cases e'
    refine k _ (E.set i r) ⟨by simp, fun j hj => ?_⟩
    unfold Pat.slots at hj
    rw [List.getElem?_set_ne (by simpa [eq_comm] using hj)]
theorem sgs_nil : PGs X [] (tGs X.K X.mg []) := PGs.imp pgs_nil fun vs σ H Q ⟨m, ds, env, env', r, E, e, k⟩ => by
  cases ds with
  | nil =>
    have e' : some env = some env' := by rw [← e]; unfold Pat.binds; rfl
    cases e'
    exact ⟨RVs.nil.mp r, k _ E ⟨rfl, fun _ _ => rfl⟩⟩
  | cons d ds => unfold Pat.binds at e; cases e
theorem sgs_cons {es : List Expr} {p : Pat} {l : List Pat} (h1 : SG X e p) (h2 : PGs X es (tGs X.K X.mg l)) (hs : (assignEach (e :: es) X.env).map (·.2) = assign e X.env :: (assignEach es X.env).map (·.2) := by rfl) : PGs X (e :: es) (tGs X.K X.mg (p :: l)) :=
  PGs.imp (pgs_cons h1 h2 hs) fun vs σ H Q ⟨m, ds, env, env', r, E, e, k⟩ => by
    cases ds with
    | nil => unfold Pat.binds at e; cases e
    | cons d ds =>
      obtain ⟨v, w, e1, r1, r2⟩ := RVs.cons.mp r
      have e' : ((Pat.bind p d env).bind fun env' => Pat.binds l ds env') = some env' := by rw [← e]; conv => rhs; unfold Pat.binds
      cases q : Pat.bind p d env with
      | none => rw [q] at e'; cases e'
      | some env1 =>
        rw [q] at e'
        refine ⟨v, w, e1, m, d, env, env1, r1, E, q, fun σ1 E1 o1 => ⟨m, ds, env1, env', r2, E1, e', fun σ2 E2 o2 => k σ2 E2 ⟨o2.1.trans o1.1, fun i hi => ?_⟩⟩⟩
        unfold Pat.slotsL at hi
        rw [List.mem_append, not_or] at hi
        exact (o2.2 i hi.2).trans (o1.2 i hi.1)
theorem sg_tup {es : List Expr} {k : Nat} {l : List Pat} {n : Nat} (hc : X.calm = true) (h : PGs X es (tGs X.K X.mg l)) (hn : (assignEach es X.env).length = n := by rfl) (hl : l.length = n := by rfl) (hst : (assignEach es X.env).findIdx? (·.1) = none := by rfl) : SG X (.Tuple es k pos) (.tp l) :=
  PG.imp (pg_tup hc h hn hst) fun v σ H Q ⟨m, d, env, env', r, E, e, k⟩ => by
    cases d with
    | tup ds =>
      unfold RV at r
      obtain ⟨a, vs, e1, h1, hz, r1⟩ := r
      have e' : Pat.binds l ds env = some env' := by rw [← e]; conv => rhs; unfold Pat.bind
      have len : ∀ (l : List Pat) (ds : List D) (env env' : Env), Pat.binds l ds env = some env' → ds.length = l.length := by
        intro l
        induction l with
        | nil =>
          intro ds env env' h
          cases ds with
          | nil => rfl
          | cons _ _ => unfold Pat.binds at h; cases h
        | cons p l ih =>
          intro ds env env' h
          cases ds with
          | nil => unfold Pat.binds at h; cases h
          | cons d ds =>
            unfold Pat.binds at h
            cases q : Pat.bind p d env with
            | none => rw [q] at h; cases h
            | some env1 =>
              rw [q] at h
              rw [List.length_cons, List.length_cons, ih ds env1 env' h]
      exact ⟨a, vs, e1, SqT.of h1, by rw [r1.length, len _ _ _ _ e', hl], m, ds, env, env', r1, E, e', fun σ' E' o => k σ' E' (by unfold Pat.slots; exact o)⟩
    | _ => unfold Pat.bind at e; cases e
theorem ss_asg {tg : Expr} {p : Pat} (he : SE X W fr2 e fa) (hg : SG X tg p) (hs : swapsWithSole [tg] e pos.line X.env = pure false := by rfl) (hw : swappedStores [tg] e X.env = pure none := by rfl) (h1 : (assignEach [tg] X.env).map (·.2) = [assign tg X.env] := by rfl) :
    SS X W fr cf (.Assign [tg] e pos) (sPat p fa) := PS.imp (ps_asg (seF he) hg hs hw h1) fun D σ H ⟨m, env, s, S, E, k⟩ => by
  refine ⟨m, env, s, S, E, (KontS.st k E).imp fun x H1 ⟨d, s1, m1, e1, A, E1, k1⟩ => ?_⟩
  cases q : p.bind d env with
  | none =>
    rw [q] at k1
    exact k1.elim
  | some env' =>
    rw [q] at k1
    exact ⟨m1, d, env, env', A.rel.1, E1, q, fun σ' E' _ => k1.nx A.sim E'⟩
end
end G

end
section
namespace G
open PySem PySem.Spec L2
variable [Tb]
section
variable {X : Cx} {W : WX} {fr cf fr2 fr3 : Bool} {e a b c tg iter elt : Expr} {fa fb fc : E} {ga gb : EB} {gi : EL} {p : Pat} {pos : Pos} {st : Stmt} {sts rest body : List Stmt} {g h : SM}
theorem ss_while {fuel : Env → Nat} (hp : PassesOwn (model X.prog X.w) X.A X.env X.xe) (hc : ST X W c ga) (hb : SSs X W fr cf body g) : SS X W fr cf (.While c body [] pos) (sWhile ga g fuel) := PS.imp (ps_while hp hc hb) fun D σ H ⟨m, env, s, S, E, k⟩ => by
  refine ⟨fun n σ' H' => ∃ m2 env2 s2, Sim X.K X.mg m2 s2 H' ∧ EnvR X.K X.mg m2 H' env2 σ' ∧ KontS X.K X.mg W fr cf m2 H' (whileN ga g n env2 s2) D, ⟨fuel env, m, env, s, S, E, k⟩, ?_⟩
  rintro n σ1 H1 ⟨m2, env2, s2, S2, E2, k2⟩
  cases n with
  | zero => exact k2.elim
  | succ n =>
    unfold whileN at k2
    refine ⟨m2, env2, s2, S2, E2, (KontS.st k2 E2).imp fun x H3 ⟨d, s3, m3, e3, A, E3, k3⟩ => ?_⟩
    have er := A.rel
    subst er
    cases d with
    | false => exact k3.nx A.sim E3
    | true =>
      rw [if_pos rfl]
      refine ⟨fun σ' H' => ∃ m4 env4 s4, Sim X.K X.mg m4 s4 H' ∧ EnvR X.K X.mg m4 H' env4 σ' ∧ KontS X.K X.mg W fr cf m4 H' (whileN ga g n env4 s4) D, fun σ' H' h => ⟨n, Nat.lt_succ_self n, h⟩, m3, env2, s3, A.sim, E3, ?_⟩
      rw [if_pos rfl] at k3
      revert k3
      cases (g env2 s3) with
      | ok fl env4 s4 =>
        cases fl with
        | nx => exact fun k m' σ' H' x1 x2 x3 x4 => ⟨m', env4, s4, x3, x4, k.move x1 x2⟩
        | ct => exact fun k m' σ' H' x1 x2 x3 x4 => ⟨m', env4, s4, x3, x4, k.move x1 x2⟩
        | bk => exact fun k => k
        | rt d => exact fun k => k
      | err x env4 s4 => exact fun k => k
      | bad => exact fun k => k
theorem ss_for (hp : PassesOwn (model X.prog X.w) X.A X.env X.xe) (hc : X.calm = true) (hi : SI X W tg iter gi) (hg : SG X tg p) (hb : SSs X W fr cf body g) (hs : ∀ x, foldedSetIterable iter X.env x = pure x := by intro _; rfl) : SS X W fr cf (.For tg iter body [] pos) (sFor p gi g) :=
  PS.imp (ps_for hp hc hi hg hb hs) fun D σ H ⟨m, env, s, S, E, k⟩ => by
    refine ⟨m, env, s, S, E, (KontS.st k E).imp fun J H1 ⟨ds, s1, m1, e1, A, E1, k1⟩ => ?_⟩
    obtain ⟨hz, it⟩ := A.rel
    refine ⟨fun i n σ' H' => ∃ m2 env2 s2, Stp m1 H1 m2 H' ∧ Sim X.K X.mg m2 s2 H' ∧ EnvR X.K X.mg m2 H' env2 σ' ∧ n = ds.length - i ∧ i ≤ ds.length ∧ KontS X.K X.mg W fr cf m2 H' (forL p g (ds.drop i) env2 s2) D, ⟨_, m1, env, s1, Stp.refl, A.sim, E1, rfl, Nat.zero_le _, k1⟩, ?_⟩
    rintro i n σ2 H2 ⟨m2, env2, s2, st2, S2, E2, rfl, hle, k2⟩
    obtain ⟨i1, i2⟩ := it i m2 H2 st2.wk
    cases q : ds[i]? with
    | none =>
      refine .inl ⟨i2 (Nat.le_antisymm hle (List.getElem?_eq_none_iff.mp q)), ?_⟩
      rw [List.drop_eq_nil_of_le (List.getElem?_eq_none_iff.mp q)] at k2
      exact k2.nx S2 E2
    | some d =>
      obtain ⟨hlt, hd⟩ := List.getElem?_eq_some_iff.mp q
      obtain ⟨go, yl⟩ := i1 d q
      refine .inr ⟨go, fun σ' H' => ∃ m4 env4 s4, Stp m1 H1 m4 H' ∧ Sim X.K X.mg m4 s4 H' ∧ EnvR X.K X.mg m4 H' env4 σ' ∧ KontS X.K X.mg W fr cf m4 H' (forL p g (ds.drop (i + 1)) env4 s4) D,
        fun σ' H' ⟨m4, env4, s4, y1, y2, y3, y4⟩ => ⟨ds.length - (i + 1), by omega, m4, env4, s4, y1, y2, y3, rfl, hlt, y4⟩, fun x H3 hy => ?_⟩
      obtain ⟨gr, rx⟩ := yl x H3 hy
      rw [List.drop_eq_getElem_cons hlt, hd] at k2
      have k2' := k2.move (Grw.stp gr) fun _ => rfl
      unfold forL at k2'
      cases qb : p.bind d env2 with
      | none =>
        rw [qb] at k2'
        exact k2'.elim
      | some env3 =>
        rw [qb] at k2'
        refine ⟨m2, d, env2, env3, rx, E2.mono (Grw.stp gr).wk, qb, fun σ3 E3 _ => ⟨m2, env3, s2, S2.grw gr, E3, ?_⟩⟩
        have st3 : Stp m1 H1 m2 H3 := st2.trans (Grw.stp gr)
        simp only at k2'
        revert k2'
        cases (g env3 s2) with
        | ok fl env4 s4 =>
          cases fl with
          | nx => exact fun k m' σ' H' x1 x2 x3 x4 => ⟨m', env4, s4, st3.trans x1, x3, x4, k.move x1 x2⟩
          | ct => exact fun k m' σ' H' x1 x2 x3 x4 => ⟨m', env4, s4, st3.trans x1, x3, x4, k.move x1 x2⟩
          | bk => exact fun k => k
          | rt d => exact fun k => k
        | err x env4 s4 => exact fun k => k
        | bad => exact fun k => k

/-! comprehensions -/
theorem wipeE_env {K : PySem.W.Frag} {mg : Str → Option Value} {m : WM} {H : Hp} {env : Env} {σ : L2.St} (E : EnvR K mg m H env σ) : ∀ vs : List Nat, EnvR K mg m H (wipeE env vs) (wipe σ vs)
  | [] => E
  | v :: vs => by
    have E' := wipeE_env E vs
    unfold wipeE wipe
    refine ⟨by simp [E'.1], fun j d e => ?_⟩
    by_cases hj : v = j
    · subst hj
      rw [List.getElem?_set] at e
      simp only [if_true] at e
      split at e <;> cases e
    · rw [List.getElem?_set_ne hj] at e ⊢
      exact E'.2 j d e
theorem wipe_idem {vs : List Nat} {σ σ' : L2.St} (o : OutS vs (wipe σ vs) σ') : wipe σ' vs = wipe σ vs := by
  have key : ∀ (ws : List Nat) (i : Nat), i ∈ ws → ∀ σ : L2.St, (wipe σ ws)[i]? = if i < σ.length then some none else none := by
    intro ws
    induction ws with
    | nil => intro i h; cases h
    | cons w ws ih =>
      intro i hi σ
      unfold wipe
      by_cases hw : w = i
      · subst hw
        rw [List.getElem?_set]
        simp [wipe_length]
      · rw [List.getElem?_set_ne hw]
        rcases List.mem_cons.mp hi with e | hi
        · exact absurd e.symm hw
        · exact ih i hi σ
  apply List.ext_getElem?
  intro i
  by_cases hi : i ∈ vs
  · rw [key vs i hi, key vs i hi, o.1, wipe_length]
  · rw [wipe_out hi, o.2 i hi]
theorem Stp.upNew {m m' : WM} {H H' : Hp} {a : Addr} {o : HO} (x : Stp m H m' H') (hn : H a = none) : Stp m H m' (upd H' a o) := by
  refine ⟨x.phi, x.psi, x.av, fun b xs h => ?_, fun b xs h n => ?_, fun b o' u h => ?_, fun b h => ?_⟩
  · rw [upd_ne (ne_of_none h hn)]; exact x.tup b xs h
  · rw [upd_ne (ne_of_none h hn)]; exact x.lst b xs h n
  · rw [upd_ne (ne_of_none h hn)]; exact x.frz b o' u h
  · by_cases hb : b = a
    · subst hb; exact Fr.of hn
    · rw [Fr.up hb] at h; exact x.dom b h
/-- the av field is nothing to a step -/
theorem Stp.avs {m m' : WM} {H H' : Hp} (x : Stp m H m' H') (l : List Addr) : Stp { m with av := l } H { m' with av := l } H' := ⟨x.phi, x.psi, rfl, x.tup, x.lst, x.frz, x.dom⟩
theorem Sim.upav {K : PySem.W.Frag} {mg : Str → Option Value} {m : WM} {s : Sto} {H : Hp} {a : Addr} {xs ys : List V} (S : Sim K mg m s H) (ha : a ∈ m.av) (h : H a = some (.lst xs)) : Sim K mg m s (upd H a (.lst ys)) ∧ Wk m H m (upd H a (.lst ys)) := by
  have w : Wk m H m (upd H a (.lst ys)) := by
    refine ⟨⟨[], by simp⟩, ⟨[], by simp⟩, fun b hb => .inl hb, fun b zs hb => ?_, fun b zs hb n1 n2 => ?_, fun b o u hb => ?_⟩
    · rw [upd_ne (ne_of hb h (by intro z; cases z))]; exact hb
    · rw [upd_ne (fun z => n2 (by rw [z]; exact ha))]; exact hb
    · rw [upd_ne (ne_of hb h (by intro z; cases z))]; exact hb
  refine ⟨⟨S.cl, S.nd, fun n b zs e1 e2 => ?_, fun b hb => ⟨(S.al b hb).1, ?_⟩, S.ol, fun n p o e1 e2 => ?_, S.on, tabs_up S.tb h⟩, w⟩
  · obtain ⟨h0, hz, vs, h1, h2⟩ := S.ce n b zs e1 e2
    have hb : b ≠ a := fun z => (S.al a ha).1 (by rw [← z]; exact List.mem_of_getElem? e1)
    exact ⟨h0, hz, vs, by rw [upd_ne hb]; exact h1, RVs.mono w _ _ h2⟩
  · by_cases hb' : b = a
    · rw [hb']; exact Fr.lstSame
    · rw [Fr.up hb']; exact (S.al b hb).2
  · obtain ⟨C, fs, h0, h1, h2⟩ := S.ob n p o e1 e2
    exact ⟨C, fs, h0, by rw [upd_ne (ne_of h1 h (by intro z; cases z))]; exact h1, FsR.mono w h2⟩
theorem lcL_cons {t : EB} {f : E} {env : Env} {d : D} {ds : List D} {s : Sto} : lcL p t f env (d :: ds) s = match p.bind d env with
    | none => .bad
    | some env1 => match t env1 s with
      | .ok true s1 => (match f env1 s1 with
        | .ok y s2 => (lcL p t f env ds s2).bind fun ys s3 => .ok (y :: ys) s3
        | _ => .bad)
      | .ok false s1 => lcL p t f env ds s1
      | _ => .bad := by rw [lcL] <;> rfl
abbrev W0 : WX := fun _ _ _ _ => False
theorem lc_imp {K : PySem.W.Frag} {mg : Str → Option Value} {own : List Nat} {gt : EB} (hp : ∀ i ∈ p.slots, i ∈ own) (σ : L2.St) (H : Hp) (Q : VK) (h0 : tE K mg W true (eLc own p gi gt fa) σ H Q) :
    tLc (tI K mg W gi) (tG K mg p) (tT K mg W0 gt) (tE K mg W0 false fa) own σ H Q := by
  obtain ⟨m, env, s, S, E, k⟩ := h0
  refine ⟨m, env, s, S, E, (KontG.bind k).imp fun J H1 ⟨ds, s1, m1, e1, A, k1⟩ => ?_⟩
  obtain ⟨hz, it⟩ := A.rel
  have k1' := k1.moveD A.st A.ph
  have E1 := E.mono A.st.wk
  intro Dd hDd
  -- the state while the list is made
  refine ⟨fun i n H' => ∃ m2 s2 acc ads, Stp m1 H1 { m2 with av := m1.av } H' ∧ m2.phi = m1.phi ∧ m2.av = Dd :: m1.av ∧ Sim K mg m2 s2 H' ∧ H' Dd = some (.lst acc) ∧ RVs K mg m2 H' ads acc ∧ ads.length ≤ i ∧ n = ds.length - i ∧ i ≤ ds.length ∧
    lcL p gt fa (wipeE env (own)) ds s1 = (lcL p gt fa (wipeE env (own)) (ds.drop i) s2).bind fun ys s3 => .ok (ads ++ ys) s3, ?_, ?_⟩
  · have w : Wk m1 H1 { m1 with av := Dd :: m1.av } (upd H1 Dd (.lst [])) := by
      have g : Grw H1 (upd H1 Dd (.lst [])) := Grw.new hDd
      refine ⟨⟨[], by simp⟩, ⟨[], by simp⟩, fun b hb => ?_, fun b zs hb => g _ _ hb, fun b zs hb _ _ => g _ _ hb, fun b o u hb => g _ _ hb⟩
      rcases List.mem_cons.mp hb with e | hb
      · exact .inr (by rw [e]; exact Fr.of hDd)
      · exact .inl hb
    have g : Grw H1 (upd H1 Dd (.lst [])) := Grw.new hDd
    refine ⟨_, { m1 with av := Dd :: m1.av }, s1, [], [], Grw.stp g, rfl, rfl, A.sim.avNew g hDd ⟨_, upd_same⟩, upd_same, RVs.nil.mpr rfl, Nat.le_refl _, rfl, Nat.zero_le _, ?_⟩
    rw [List.drop_zero]
    cases lcL p gt fa (wipeE env (own)) ds s1 <;> rfl
  · rintro i n H2 ⟨m2, s2, acc, ads, st2, ph2, av2, S2, hD2, rD2, hl2, rfl, hi2, eq2⟩
    have wk2 : Wk m1 H1 m2 H2 := by
      refine ⟨⟨[], by simp [ph2]⟩, let ⟨l, e, _⟩ := st2.psi; ⟨l, e⟩, fun b hb => ?_, st2.tup, fun b zs hb n _ => st2.lst b zs hb n, st2.frz⟩
      rw [av2] at hb
      rcases List.mem_cons.mp hb with e | hb
      · exact .inr (by rw [e]; exact Fr.of hDd)
      · exact .inl hb
    obtain ⟨i1, i2⟩ := it i m2 H2 wk2
    have kk : KontG K mg (RD K mg true H1) (fun c d H' => W c d σ H') m1 H1 (((lcL p gt fa (wipeE env (own)) (ds.drop i) s2).bind fun ys s3 => .ok (ads ++ ys) s3).bind fun ys s3 => .ok (.lst ys) s3) Q := by
      rw [← eq2]
      exact k1'
    cases q : ds[i]? with
    | none =>
      refine .inl ⟨i2 (Nat.le_antisymm hi2 (List.getElem?_eq_none_iff.mp q)), ?_⟩
      rw [List.drop_eq_nil_of_le (List.getElem?_eq_none_iff.mp q)] at kk
      have kk' : KontG K mg (RD K mg true H1) (fun c d H' => W c d σ H') m1 H1 (.ok (.lst ads) s2) Q := by
        have e : ads ++ ([] : List D) = ads := List.append_nil _
        rw [← e]
        exact kk
      have wb : Wk m2 H2 { m2 with av := m1.av } H2 := by
        refine ⟨⟨[], by simp⟩, ⟨[], by simp⟩, fun b hb => .inl (by rw [av2]; exact List.mem_cons_of_mem _ hb), fun _ _ h => h, fun _ _ h _ _ => h, fun _ _ _ h => h⟩
      refine kk' (.ref Dd) { m2 with av := m1.av } H2 st2 ph2 ⟨S2.cl, S2.nd, fun n b zs e1 e2 => ?_, fun b hb => S2.al b (by rw [av2]; exact List.mem_cons_of_mem _ hb), S2.ol, fun n p o e1 e2 => ?_, S2.on, S2.tb⟩ ⟨?_, fun _ l a e1 e2 => by cases e1; cases e2; exact ⟨Fr.of hDd, by rw [← av2]; exact S2, acc, hD2, by rw [← av2]; exact rD2⟩⟩
      · obtain ⟨h0, hz', vs, h1, h2⟩ := S2.ce n b zs e1 e2
        exact ⟨h0, hz', vs, h1, RVs.mono wb _ _ h2⟩
      · obtain ⟨C, fs, h0, h1, h2⟩ := S2.ob n p o e1 e2
        exact ⟨C, fs, h0, h1, FsR.mono wb h2⟩
      · unfold RV
        refine ⟨Dd, acc, rfl, hD2, by rw [ph2]; exact A.sim.noPhi hDd, A.sim.noAv hDd, by omega, RVs.mono wb _ _ rD2⟩
    | some d =>
      obtain ⟨hlt, hd⟩ := List.getElem?_eq_some_iff.mp q
      obtain ⟨go, yl⟩ := i1 d q
      refine .inr ⟨go, fun H' => ∃ m4 s4 acc4 ads4, Stp m1 H1 { m4 with av := m1.av } H' ∧ m4.phi = m1.phi ∧ m4.av = Dd :: m1.av ∧ Sim K mg m4 s4 H' ∧ H' Dd = some (.lst acc4) ∧ RVs K mg m4 H' ads4 acc4 ∧ ads4.length ≤ i + 1 ∧
        lcL p gt fa (wipeE env (own)) ds s1 = (lcL p gt fa (wipeE env (own)) (ds.drop (i + 1)) s4).bind fun ys s3 => .ok (ads4 ++ ys) s3,
        fun H' ⟨m4, s4, acc4, ads4, y1, y2, y3, y4, y5, y6, y7, y8⟩ => ⟨ds.length - (i + 1), by omega, m4, s4, acc4, ads4, y1, y2, y3, y4, y5, y6, y7, rfl, hlt, y8⟩, fun x H3 hy => ?_⟩
      obtain ⟨gr, rx⟩ := yl x H3 hy
      rw [List.drop_eq_getElem_cons hlt, hd] at eq2 kk
      rw [lcL_cons] at eq2 kk
      have E3 : EnvR K mg m2 H3 (wipeE env (own)) (wipe σ (own)) := ((wipeE_env (E1.mono wk2) _).mono (Grw.stp gr).wk)
      cases qb : p.bind d (wipeE env (own)) with
      | none =>
        rw [qb] at kk
        exact kk.elim
      | some env3 =>
        rw [qb] at kk eq2
        simp only at kk eq2
        refine ⟨m2, d, _, env3, rx, E3, qb, fun σ3 E4 o3 => ⟨wipe_idem ⟨o3.1, fun j hj => o3.2 j fun z => hj (hp j z)⟩, ?_⟩⟩
        have S3 := S2.grw gr
        refine ⟨m2, env3, s2, S3, E4, ?_⟩
        cases qt : gt env3 s2 with
        | bad =>
          rw [qt] at kk
          exact kk.elim
        | err x s3 =>
          rw [qt] at kk
          exact kk.elim
        | ok bb s3 =>
          rw [qt] at kk eq2
          intro bb' m3 H4 t1 t2 t3 t4
          subst t4
          have st4 : Stp m1 H1 { m3 with av := m1.av } H4 := (st2.trans (Grw.stp gr)).trans (t1.avs m1.av)
          have ph4 : m3.phi = m1.phi := t2.trans ph2
          have av4 : m3.av = Dd :: m1.av := t1.av.trans av2
          have hD4 : H4 Dd = some (.lst acc) := t1.lst Dd acc (gr _ _ hD2) (by rw [ph2]; exact A.sim.noPhi hDd)
          have rD4 : RVs K mg m3 H4 ads acc := RVs.mono t1.wk _ _ (rD2.grw gr)
          cases bb with
          | false =>
            rw [if_neg (by decide)]
            exact ⟨m3, s3, acc, ads, st4, ph4, av4, t3, hD4, rD4, by omega, eq2⟩
          | true =>
            rw [if_pos rfl]
            refine ⟨m3, env3, s3, t3, E4.mono t1.wk, ?_⟩
            simp only at kk eq2
            cases qf : fa env3 s3 with
            | bad =>
              rw [qf] at kk
              exact kk.elim
            | err x s4 =>
              rw [qf] at kk
              exact kk.elim
            | ok y s4 =>
              rw [qf] at kk eq2
              simp only at kk eq2
              intro v m5 H5 u1 u2 u3 u4
              have hD5 : H5 Dd = some (.lst acc) := u1.lst Dd acc hD4 (by rw [ph4]; exact A.sim.noPhi hDd)
              have ph5 : m5.phi = m1.phi := u2.trans ph4
              have av5 : m5.av = Dd :: m1.av := u1.av.trans av4
              obtain ⟨S5, w5⟩ := u3.upav (ys := acc ++ [v]) (a := Dd) (by rw [av5]; exact List.mem_cons_self) hD5
              refine ⟨acc, hD5, ?_, m5, s4, acc ++ [v], ads ++ [y], (st4.trans (u1.avs m1.av)).upNew hDd, ph5, av5, S5, upd_same, RVs.mono w5 _ _ ((RVs.mono u1.wk _ _ rD4).append (RVs.mk u4.1 (RVs.nil.mpr rfl))), by rw [List.length_append]; simp; omega, ?_⟩
              · rw [rD2.length]; omega
              · rw [eq2]
                cases lcL p gt fa (wipeE env (own)) (ds.drop (i + 1)) s4 with
                | ok ys s5 => simp
                | err x s5 => rfl
                | bad => rfl
theorem se_lc {ifs : List Expr} {scope : Scope} {own : List (Str × Nat)} {gt : EB} (hc : X.calm = true) (hN : X.N.Nodup) (hi : SI X W tg iter gi) (ok : BlkOk X.N X.env.scope scope own)
    (hg : ∀ (s : Shared) (H : Hp) (C : Addr) (cl : List (Str × Addr)) (fp : List Addr), SG (X.blk s H scope (compEnvC scope cl C X.env) fp) tg p) (ht : ∀ (s : Shared) (H : Hp) (C : Addr) (cl : List (Str × Addr)) (fp : List Addr), PTs (X.blk s H scope (compEnvC scope cl C X.env) fp) ifs (tT X.K X.mg W0 gt))
    (he : ∀ (s : Shared) (H : Hp) (C : Addr) (cl : List (Str × Addr)) (fp : List Addr), SE (X.blk s H scope (compEnvC scope cl C X.env) fp) W0 fr2 elt fa) (hp : ∀ i ∈ p.slots, i ∈ own.map (·.2) := by decide) (hs : ∀ x, foldedSetIterable iter X.env x = pure x := by intro _; rfl) :
    SE X W true (.ListComp elt [⟨tg, iter, ifs, 0⟩] scope pos) (eLc (own.map (·.2)) p gi gt fa) := PE.imp (pe_lc (g := tG X.K X.mg p) (te := tE X.K X.mg W0 false fa) hc hN hi ok hg ht (fun s H C cl fp => seF (X := X.blk s H scope (compEnvC scope cl C X.env) fp) (he s H C cl fp)) hs) (lc_imp hp)
theorem PTs.imp {es : List Expr} {t t' : TT} (h : PTs X es t) (i : ∀ σ H Q, t' σ H Q → t σ H Q) : PTs X es t' := ⟨fun pins s σ H Q I q => h.run pins s σ H Q I (i σ H Q q)⟩
theorem pts_yes : PTs X [] (tT X.K X.mg W bYes) := PTs.imp pts_nil fun σ H Q ⟨m, env, s', S, E, k⟩ => k.ok S rfl
theorem pts_if (h : ST X W c ga) : PTs X [c] (tT X.K X.mg W ga) := pts_one h
end
end G

end
section
namespace G
open PySem PySem.Spec L2
open PyProof.Rows (envOfC)
variable [Tb]
abbrev Fun1 := List D → Sto → Res D
/-- what a def promises -/
def spD (K : PySem.W.Frag) (mg : Str → Option Value) (n : Nat) (fr : Bool) (F : Fun1) : Sp := fun vs H Q E => ∃ m ds s, Sim K mg m s H ∧ RVs K mg m H ds vs ∧ ds.length = n ∧ KontG K mg (RD K mg fr H) E m H (F ds s) Q
/-- a def of the module that may be called -/
def Cal (P : Program) (w : World) (K : PySem.W.Frag) (mg : Str → Option Value) (base : Heap) (k : Nat) (x : Str) (n : Nat) (fr : Bool) (F : Fun1) : Prop :=
  ∃ f fd ps, FnOk P w K mg base (L2.CX P w) k f fd ps (spD K mg n fr F) ∧ mg x = some (.ref f) ∧ PySem.W.keepIn K (.ref f) = true ∧ Binds K fd ps []
def eCall (F : Fun1) (a : EL) : E := fun env s => (a env s).bind F
def startE (nl : Nat) (ds : List D) : Env := ds.map some ++ List.replicate (nl - ds.length) none
/-- a def that makes no changeable lists -/
def defF (nl : Nat) (g : SM) : Fun1 := fun ds s => match g (startE nl ds) s with
  | .ok (.rt d) _ s' => .ok d s'
  | .ok .nx _ s' => .ok .non s'
  | .err x _ s' => .err x s'
  | _ => .bad
mutual
/-- changeable lists from the number n on are told by content -/
def fz (n : Nat) (c : List (List D)) : D → D
  | .cel i => if i < n then .cel i else .lst (c.getD i [])
  | .tup l => .tup (fzL n c l)
  | .lst l => .lst (fzL n c l)
  | d => d
def fzL (n : Nat) (c : List (List D)) : List D → List D
  | [] => []
  | d :: l => fz n c d :: fzL n c l
end
def cut (n : Nat) (s : Sto) : Sto := { s with cel := s.cel.take n }
/-- a def that does -/
def defC (nl : Nat) (g : SM) : Fun1 := fun ds s => match g (startE nl ds) s with
  | .ok (.rt d) _ s' => .ok (fz s.cel.length s'.cel d) (cut s.cel.length s')
  | .ok .nx _ s' => .ok .non (cut s.cel.length s')
  | .err x _ s' => .err x (cut s.cel.length s')
  | _ => .bad
section
variable {X : Cx} {W : WX} {fr cf fr2 fr3 : Bool} {e a b c : Expr} {es : List Expr} {fa fb fc : E} {gl : EL} {n k : Nat} {pos : Pos}
theorem se_call {x : Str} {p : Pos} {F : Fun1} (cal : Cal X.prog X.w X.K X.mg X.base k x n fr F) (hr : Room k X.A) (tk : Takes X W) (hg : Gl X x) (ha : SA X W n (e :: es) gl) (hdb : (x == ("__debug__" : Str)) = false := by decide)
    (he : starEach (e :: es) X.env = (false, eval e X.env) :: starEach es X.env := by rfl) (hpl : (backTo pos (starEach es X.env)).any (·.1) = false := by rfl) : SE X W fr (.Call (.Name x p) (e :: es) [] pos) (eCall F gl) := by
  obtain ⟨f, fd, ps, ok, hm, hk, hb⟩ := cal
  refine PE.imp (pe_callSD (E := WE W) ok hr hg hm hk hb .nil (fun σ => passAt tk σ) ha hdb he hpl) fun σ H Q ⟨m, env, s, S, E, k⟩ => ?_
  refine ⟨m, env, s, S, E, (KontG.bind k).imp fun xs H1 ⟨dxs, s1, m1, e1, A, k1⟩ => ?_⟩
  refine ⟨m1, dxs, s1, A.sim, ?_, A.rel.2, k1.moveD A.st A.ph⟩
  rw [List.append_nil]
  exact A.rel.1
theorem startE_ok {K : PySem.W.Frag} {mg : Str → Option Value} {m : WM} {H : Hp} {ds : List D} {vs : List V} {N : List Str} (r : RVs K mg m H ds vs) : EnvR K mg m H (startE N.length ds) (L2.start N vs) := by
  unfold startE L2.start
  refine ⟨by simp [r.length], fun i d e => ?_⟩
  by_cases hi : i < ds.length
  · rw [List.getElem?_append_left (by simpa using hi), List.getElem?_map] at e
    cases q : ds[i]? with
    | none => rw [q] at e; cases e
    | some d' =>
      rw [q] at e
      cases e
      obtain ⟨v, q1, q2⟩ := r.get q
      refine ⟨v, ?_, q2⟩
      rw [List.getElem?_append_left (by rw [List.length_map, r.length]; exact hi), List.getElem?_map, q1]
      rfl
  · rw [List.getElem?_append_right (by simpa using hi), List.getElem?_replicate] at e
    split at e <;> cases e
theorem def_ok {P : Program} {w : World} {K : PySem.W.Frag} {mg : Str → Option Value} {base : Heap} {x qual : Str} {params : Arguments} {body : List Stmt} {scope : Scope} {f : Addr} {fd : FuncData} {N ps : List Str} {g : SM}
    (F : FunD K x qual params body scope [] [] f fd) (S : FnScope N ps scope) (hn : ps.length = n)
    (hbody : ∀ (cdv : Value) (A : Around) (outer : List PySem.Env) (s : Shared) (H : Hp) (E : XK), Room k (A.deeper (envOfC qual scope s.heap.objs.size f cdv)) → SSs (cxOf (L2.CX P w) P w K mg base N qual scope f cdv A outer s H E) (fun c d _ H => E c d H) fr false body g) :
    FnOk P w K mg base (L2.CX P w) (k + 1) f fd ps (spD K mg n fr (defF N.length g)) := by
  refine F.ok S (fun vs H Q E ⟨m, ds, s, _, r, hl, _⟩ => by rw [r.length, hl, hn]) fun cdv A outer s H vs Q E hr hsp => ⟨_, hbody cdv A outer s H E hr, ?_⟩
  obtain ⟨m, ds, s0, S0, r, hl, kk⟩ := hsp
  refine ⟨m, _, s0, S0, startE_ok r, ?_⟩
  have kk' : KontG K mg (RD K mg fr H) E m H (match g (startE N.length ds) s0 with | .ok (.rt d) _ s' => .ok d s' | .ok .nx _ s' => .ok .non s' | .err x _ s' => .err x s' | _ => .bad) Q := kk
  revert kk'
  cases g (startE N.length ds) s0 with
  | ok fl env' s' =>
    cases fl with
    | rt d => exact fun k m' σ' H' x1 x2 x3 x4 v x5 => k v m' H' x1 (x2 rfl) x3 x5
    | nx => exact fun k m' σ' H' x1 x2 x3 x4 => k .non m' H' x1 (x2 rfl) x3 ⟨RV.non, fun _ _ _ z => nomatch z⟩
    | bk => exact fun k => k.elim
    | ct => exact fun k => k.elim
  | err x env' s' => exact fun k c dx m' σ' H' x1 x2 x3 x4 x5 => k c dx m' H' x1 (x2 rfl) x3 x5
  | bad => exact fun k => k.elim

/-! changeable lists leave with their def -/
theorem pureL_cons {d : D} {l : List D} : pureL (d :: l) = (d.pure && pureL l) := by rw [pureL]
mutual
theorem RV.shrink {K : PySem.W.Frag} {mg : Str → Option Value} {m m' : WM} {H : Hp} (h1 : ∀ a ∈ m'.phi, a ∈ m.phi) (h2 : m'.psi = m.psi) (h3 : m'.av = m.av) : ∀ (d : D) (v : V), d.pure = true → RV K mg m H d v → RV K mg m' H d v
  | .non, _, _, h => by unfold RV at h ⊢; exact h
  | .bl _, _, _, h => by unfold RV at h ⊢; exact h
  | .int _, _, _, h => by unfold RV at h ⊢; exact h
  | .str _, _, _, h => by unfold RV at h ⊢; exact h
  | .tup l, _, p, h => by
    unfold RV at h ⊢
    obtain ⟨a, vs, e, q1, hl, q2⟩ := h
    exact ⟨a, vs, e, q1, hl, RVs.shrink h1 h2 h3 l vs (by unfold D.pure at p; exact p) q2⟩
  | .lst l, _, p, h => by
    unfold RV at h ⊢
    obtain ⟨a, vs, e, q1, n1, n2, hl, q2⟩ := h
    exact ⟨a, vs, e, q1, fun z => n1 (h1 a z), by rw [h3]; exact n2, hl, RVs.shrink h1 h2 h3 l vs (by unfold D.pure at p; exact p) q2⟩
  | .cel n, _, p, _ => by unfold D.pure at p; cases p
  | .obj n, _, _, h => by unfold RV at h ⊢; rw [h2]; exact h
  | .fn _, _, _, h => by unfold RV at h ⊢; exact h
  | .ty _, _, _, h => by unfold RV at h ⊢; exact h
  | .scr _, _, _, h => by
    unfold RV at h ⊢
    obtain ⟨a, e, hl, q⟩ := h
    exact ⟨a, e, hl, q.imp id fun ⟨q1, n1, n2⟩ => ⟨q1, fun z => n1 (h1 a z), by rw [h3]; exact n2⟩⟩
theorem RVs.shrink {K : PySem.W.Frag} {mg : Str → Option Value} {m m' : WM} {H : Hp} (h1 : ∀ a ∈ m'.phi, a ∈ m.phi) (h2 : m'.psi = m.psi) (h3 : m'.av = m.av) : ∀ (ds : List D) (vs : List V), pureL ds = true → RVs K mg m H ds vs → RVs K mg m' H ds vs
  | [], _, _, h => by rw [RVs.nil] at h ⊢; exact h
  | d :: ds, _, p, h => by
    obtain ⟨v, r, e, q1, q2⟩ := RVs.cons.mp h
    rw [pureL_cons, Bool.and_eq_true] at p
    exact RVs.cons.mpr ⟨v, r, e, RV.shrink h1 h2 h3 d v p.1 q1, RVs.shrink h1 h2 h3 ds r p.2 q2⟩
end
section
variable {K : PySem.W.Frag} {mg : Str → Option Value} {m m' : WM} {H H' : Hp} {s s' : Sto} {t : List Addr}
theorem Sim.cut (S : Sim K mg m' s' H') (hp : m'.phi = m.phi ++ t) (hl : m.phi.length = s.cel.length) : Sim K mg { m' with phi := m.phi } (G.cut s.cel.length s') H' := by
  have sub : ∀ a ∈ m.phi, a ∈ m'.phi := fun a h => by rw [hp]; exact List.mem_append_left _ h
  refine ⟨?_, ?_, fun n a xs e1 e2 => ?_, fun a h => ⟨fun z => (S.al a h).1 (sub a z), (S.al a h).2⟩, S.ol, fun n p o e1 e2 => ?_, S.on, S.tb⟩
  · show m.phi.length = (s'.cel.take s.cel.length).length
    have q := S.cl
    rw [hp, List.length_append] at q
    rw [List.length_take]
    omega
  · have q := S.nd
    rw [hp] at q
    exact (List.nodup_append.mp q).1
  · have hn : n < m.phi.length := (List.getElem?_eq_some_iff.mp e1).1
    have e2' : s'.cel[n]? = some xs := by
      have e3 : (s'.cel.take s.cel.length)[n]? = some xs := e2
      rw [List.getElem?_take_of_lt (by omega)] at e3
      exact e3
    have e1' : m'.phi[n]? = some a := by rw [hp, List.getElem?_append_left hn]; exact e1
    obtain ⟨h0, hz, vs, h1, h2⟩ := S.ce n a xs e1' e2'
    exact ⟨h0, hz, vs, h1, RVs.shrink (m' := { m' with phi := m.phi }) sub rfl rfl _ _ h0 h2⟩
  · obtain ⟨C, fs, h0, h1, h2⟩ := S.ob n p o e1 e2
    exact ⟨C, fs, h0, h1, h2.1, RVs.shrink (m' := { m' with phi := m.phi }) sub rfl rfl _ _ h2.2.2.1 h2.2.1, h2.2.2⟩
mutual
theorem RV.fz (S : Sim K mg m' s' H') (hp : m'.phi = m.phi ++ t) (hl : m.phi.length = s.cel.length) : ∀ (d : D) (v : V), RV K mg m' H' d v → RV K mg { m' with phi := m.phi } H' (G.fz s.cel.length s'.cel d) v
  | .non, _, h => by unfold G.fz; unfold RV at h ⊢; exact h
  | .bl _, _, h => by unfold G.fz; unfold RV at h ⊢; exact h
  | .int _, _, h => by unfold G.fz; unfold RV at h ⊢; exact h
  | .str _, _, h => by unfold G.fz; unfold RV at h ⊢; exact h
  | .tup l, _, h => by
    unfold G.fz
    unfold RV at h ⊢
    obtain ⟨a, vs, e, q1, hz, q2⟩ := h
    have q3 := RVs.fz S hp hl l vs q2
    exact ⟨a, vs, e, q1, by rw [← q3.length, q2.length]; exact hz, q3⟩
  | .lst l, _, h => by
    unfold G.fz
    unfold RV at h ⊢
    obtain ⟨a, vs, e, q1, n1, n2, hz, q2⟩ := h
    have q3 := RVs.fz S hp hl l vs q2
    exact ⟨a, vs, e, q1, fun z => n1 (by rw [hp]; exact List.mem_append_left _ z), n2, by rw [← q3.length, q2.length]; exact hz, q3⟩
  | .cel n, v, h => by
    unfold RV at h
    obtain ⟨a, e, q⟩ := h
    unfold G.fz
    split
    · rename_i hn
      unfold RV
      refine ⟨a, e, ?_⟩
      rw [hp, List.getElem?_append_left (by omega)] at q
      exact q
    · rename_i hn
      have hn' : n < m'.phi.length := (List.getElem?_eq_some_iff.mp q).1
      have hn2 : n < s'.cel.length := by rw [← S.cl]; exact hn'
      obtain ⟨h0, hz, vs, h1, h2⟩ := S.ce n a s'.cel[n] q (List.getElem?_eq_getElem hn2)
      unfold RV
      have ec : s'.cel.getD n [] = s'.cel[n] := by rw [List.getD_eq_getElem?_getD, List.getElem?_eq_getElem hn2]; rfl
      rw [ec]
      refine ⟨a, vs, e, h1, fun z => ?_, fun z => (S.al a z).1 (List.mem_of_getElem? q), hz, RVs.shrink (m := m') (m' := { m' with phi := m.phi }) (fun a h => by rw [hp]; exact List.mem_append_left _ h) rfl rfl _ _ h0 h2⟩
      have nd := S.nd
      rw [hp] at nd q
      rw [List.getElem?_append_right (by omega)] at q
      exact (List.nodup_append.mp nd).2.2 a z a (List.mem_of_getElem? q) rfl
  | .obj n, _, h => by unfold G.fz; unfold RV at h ⊢; exact h
  | .fn _, _, h => by unfold G.fz; unfold RV at h ⊢; exact h
  | .ty _, _, h => by unfold G.fz; unfold RV at h ⊢; exact h
  | .scr _, _, h => by
    unfold G.fz
    unfold RV at h ⊢
    obtain ⟨a, e, hz, q⟩ := h
    exact ⟨a, e, hz, q.imp id fun ⟨q1, n1, n2⟩ => ⟨q1, fun z => n1 (by rw [hp]; exact List.mem_append_left _ z), n2⟩⟩
theorem RVs.fz (S : Sim K mg m' s' H') (hp : m'.phi = m.phi ++ t) (hl : m.phi.length = s.cel.length) : ∀ (ds : List D) (vs : List V), RVs K mg m' H' ds vs → RVs K mg { m' with phi := m.phi } H' (G.fzL s.cel.length s'.cel ds) vs
  | [], _, h => by unfold G.fzL; rw [RVs.nil] at h ⊢; exact h
  | d :: ds, _, h => by
    unfold G.fzL
    obtain ⟨v, r, e, q1, q2⟩ := RVs.cons.mp h
    exact RVs.cons.mpr ⟨v, r, e, RV.fz S hp hl d v q1, RVs.fz S hp hl ds r q2⟩
end
theorem Stp.cut (x : Stp m H m' H') : Stp m H { m' with phi := m.phi } H' := ⟨⟨[], by simp⟩, x.psi, x.av, x.tup, x.lst, x.frz, x.dom⟩
end
end
end G

end
section
namespace G
open PySem PySem.Spec L2
variable [Tb]
/-! ### operations by values -/
theorem size_lit : sizeLine = 16777216 := by decide
/-- a changeable list by its content -/
def asL (s : Sto) : D → Option (List D)
  | .lst l => some l
  | .cel n => s.cel[n]?
  | _ => none
def dAdd : G2 := fun s x y => match x, y with
  | .int i, .int j => some (.int (i + j))
  | .str a, .str b => if a.length + b.length ≤ 16777216 then some (.str (a ++ b)) else none
  | .tup a, .tup b => if a.length + b.length ≤ 16777216 then some (.tup (a ++ b)) else none
  | .lst a, .lst b => if a.length + b.length ≤ 16777216 then some (.lst (a ++ b)) else none
  | .int _, _ => none | .str _, _ => none | .tup _, _ => none
  | x, y => match asL s x, asL s y with
    | some a, some b => if pureL a = true ∧ pureL b = true ∧ a.length + b.length ≤ 16777216 then some (.lst (a ++ b)) else none
    | _, _ => none
def dI2 (f : Int → Int → D) : G2 := fun _ x y => match x, y with
  | .int i, .int j => some (f i j)
  | _, _ => none
def dI2c (c : Int → Int → Bool) (f : Int → Int → D) : G2 := fun _ x y => match x, y with
  | .int i, .int j => if c i j = true then some (f i j) else none
  | _, _ => none
def dSub : G2 := dI2 fun i j => .int (i - j)
def dLt : G2 := dI2 fun i j => .bl (decide (i < j))
def dLe : G2 := dI2 fun i j => .bl (decide (i ≤ j))
def dGt : G2 := dI2 fun i j => .bl (decide (j < i))
def dGe : G2 := dI2 fun i j => .bl (decide (j ≤ i))
def smallI (i : Int) : Bool := decide (-(2 ^ 64) < i ∧ i < 2 ^ 64)
def wideI (i : Int) : Bool := decide (i.natAbs.log2 < 9000)
def dMul : G2 := fun s x y => match x, y with
  | .int i, .int j => if (smallI i || smallI j || (wideI i && wideI j)) = true then some (.int (i * j)) else none
  | .tup l, .int k => if l ≠ [] ∧ 2 ≤ k ∧ k ≤ 1000 ∧ l.length ≤ 1000 then some (.tup (List.replicate k.toNat l).flatten) else none
  | .lst l, .int k => if 0 ≤ k ∧ k ≤ 100000 ∧ l.length * k.toNat ≤ 16777216 then some (.lst (List.replicate k.toNat l).flatten) else none
  | _, _ => none
def dMod : G2 := dI2c (fun _ j => decide (0 < j)) fun i j => .int (i % j)
def dFdiv : G2 := dI2c (fun _ j => decide (0 < j) && (decide (j < 1073741824) || wideI j)) fun i j => .int (i / j)
def dPow : G2 := dI2c (fun i j => decide (0 ≤ j ∧ j ≤ 1000 ∧ i.natAbs < 2 ^ 64)) fun i j => .int (i ^ j.toNat)
/-! data: what == asks -/
mutual
def isData : D → Bool
  | .non => true
  | .bl _ => true
  | .int _ => true
  | .str x => PyData.strOk x
  | .tup l => isDataL l
  | .lst l => isDataL l
  | _ => false
def isDataL : List D → Bool
  | [] => true
  | d :: l => isData d && isDataL l
end
mutual
def depthD : D → Nat
  | .tup l => depthL l + 1
  | .lst l => depthL l + 1
  | _ => 0
def depthL : List D → Nat
  | [] => 0
  | d :: l => max (depthD d) (depthL l)
end
mutual
def toPy : D → PyData
  | .non => .none
  | .bl b => .bool b
  | .int i => .int i
  | .str x => .str x
  | .tup l => .tuple (toPyL l)
  | .lst l => .list (toPyL l)
  | _ => .none
def toPyL : List D → List PyData
  | [] => []
  | d :: l => toPy d :: toPyL l
end
mutual
/-- == -/
def deq : D → D → Bool
  | .non, .non => true
  | .bl a, .bl b => a == b
  | .bl a, .int j => (if a then 1 else 0) == j
  | .int i, .bl b => i == (if b then 1 else 0)
  | .int i, .int j => i == j
  | .str x, .str y => x == y
  | .tup xs, .tup ys => deqL xs ys
  | .lst xs, .lst ys => deqL xs ys
  | _, _ => false
def deqL : List D → List D → Bool
  | [], [] => true
  | x :: xs, y :: ys => deq x y && deqL xs ys
  | _, _ => false
end
def okD (d : D) : Bool := isData d && decide (depthD d ≤ 60)
def deref (s : Sto) : D → D
  | .cel n => match s.cel[n]? with
    | some l => .lst l
    | none => .cel n
  | d => d
def dEq : G2 := fun s x y => if (okD (deref s x) && okD (deref s y)) = true then some (.bl (deq (deref s x) (deref s y))) else none
def dNe : G2 := fun s x y => if (okD (deref s x) && okD (deref s y)) = true then some (.bl (!deq (deref s x) (deref s y))) else none
/-- is None -/
def isNon : D → Bool
  | .non => true
  | _ => false
def dIsN : G2 := fun _ x y => match y with
  | .non => some (.bl (isNon x))
  | _ => none
def dNotN : G2 := fun _ x y => match y with
  | .non => some (.bl (!isNon x))
  | _ => none
/-- in: lists, tuples of data; a text's signs -/
def dInB (s : Sto) (x y : D) : Option Bool := match deref s y with
  | .lst l => if (okD x && okD (.lst l)) = true then some (l.any fun z => deq z x) else none
  | .tup l => if (okD x && okD (.tup l)) = true then some (l.any fun z => deq z x) else none
  | .str z => match x with
    | .str c => if c.length = 1 then some (decide (c.cps.getD 0 0 ∈ z.cps.toList)) else none
    | _ => none
  | _ => none
def dIn : G2 := fun s x y => (dInB s x y).map .bl
def dNotIn : G2 := fun s x y => (dInB s x y).map fun b => .bl (!b)

section
variable {K : PySem.W.Frag} {mg : Str → Option Value} {m : WM} {H : Hp} {s : Sto}
theorem RV.tup' {l : List D} {v : V} (h : RV K mg m H (.tup l) v) : ∃ a vs, v = .ref a ∧ H a = some (.tup vs) ∧ l.length ≤ sizeLine ∧ RVs K mg m H l vs := by unfold RV at h; exact h
theorem RV.lst' {l : List D} {v : V} (h : RV K mg m H (.lst l) v) : ∃ a vs, v = .ref a ∧ H a = some (.lst vs) ∧ a ∉ m.phi ∧ a ∉ m.av ∧ l.length ≤ sizeLine ∧ RVs K mg m H l vs := by unfold RV at h; exact h
theorem RV.cel' {n : Nat} {v : V} (h : RV K mg m H (.cel n) v) : ∃ a, v = .ref a ∧ m.phi[n]? = some a := by unfold RV at h; exact h
theorem RV.ty' {n : String} {v : V} (h : RV K mg m H (.ty n) v) : v = .ty n := by unfold RV at h; exact h
theorem RV.ty {n : String} : RV K mg m H (.ty n) (.ty n) := by unfold RV; rfl
/-- a list of either kind: where it stands -/
theorem asL_at (S : Sim K mg m s H) {d : D} {v : V} {l : List D} (r : RV K mg m H d v) (e : asL s d = some l) : ∃ a vs, v = .ref a ∧ H a = some (.lst vs) ∧ l.length ≤ sizeLine ∧ RVs K mg m H l vs := by
  cases d with
  | lst l' =>
    cases e
    obtain ⟨a, vs, e1, h1, _, _, hz, h2⟩ := r.lst'
    exact ⟨a, vs, e1, h1, hz, h2⟩
  | cel n =>
    obtain ⟨a, e1, h1⟩ := r.cel'
    obtain ⟨_, hz, vs, h2, h3⟩ := S.ce n a l h1 e
    exact ⟨a, vs, e1, h2, hz, h3⟩
  | _ => cases e
theorem fin_lst {l : List D} {vs : List V} {p : Addr} {Q : VK} (S : Sim K mg m s H) (r : RVs K mg m H l vs) (hz : l.length ≤ sizeLine) (hp : H p = none) (k : ∀ v H', Grw H H' → RV K mg m H' (.lst l) v → (∀ l', D.lst l = .lst l' → NewL K mg m H H' l' v) → Q v H') : Q (.ref p) (upd H p (.lst vs)) :=
  k (.ref p) _ (Grw.new hp) (RV.newL S r hp hz) fun l' e => by cases e; exact ⟨p, vs, rfl, hp, upd_same, r⟩
theorem fin_tup {l : List D} {vs : List V} {p : Addr} {Q : VK} (r : RVs K mg m H l vs) (hz : l.length ≤ sizeLine) (hp : H p = none) (k : ∀ v H', Grw H H' → RV K mg m H' (.tup l) v → (∀ l', D.tup l = .lst l' → NewL K mg m H H' l' v) → Q v H') : Q (.ref p) (upd H p (.tup vs)) :=
  k (.ref p) _ (Grw.new hp) (RV.newT r hp hz) fun _ z => nomatch z
/-- a scalar comes -/
theorem fin_sc {d : D} {v : V} {Q : VK} (r : RV K mg m H d v) (h : ∀ l, d ≠ .lst l) (k : ∀ v H', Grw H H' → RV K mg m H' d v → (∀ l', d = .lst l' → NewL K mg m H H' l' v) → Q v H') : Q v H :=
  k v H Grw.refl r fun l e => absurd e (h l)
abbrev rAddAll (K : PySem.W.Frag) : R2 := fun x y H Q => rI0 (fun i j => .int (i + j)) x y H Q ∨ (∃ i j, x = .str i ∧ y = .str j ∧ i.length + j.length ≤ sizeLine ∧ Q (.str (i ++ j)) H) ∨ rCatA K x y H Q ∨ rCat x y H Q
theorem op_addAll {X : Cx} : OpR X (binaryOp .Add) (rAddAll X.K) := OpR.or op_add (OpR.or op_add_str (OpR.or op_catA op_cat))
theorem ok_addL {x y : V} {a b : List D} {Q : VK} {dx dy : D} (S : Sim K mg m s H) (rx : RV K mg m H dx x) (ry : RV K mg m H dy y) (ea : asL s dx = some a) (eb : asL s dy = some b) (hz : a.length + b.length ≤ 16777216)
    (k : ∀ v H', Grw H H' → RV K mg m H' (.lst (a ++ b)) v → (∀ l', D.lst (a ++ b) = .lst l' → NewL K mg m H H' l' v) → Q v H') : rCat x y H Q := by
  obtain ⟨p, vs, rfl, h1, z1, r1⟩ := asL_at S rx ea
  obtain ⟨q, ws, rfl, h2, z2, r2⟩ := asL_at S ry eb
  refine ⟨p, q, vs, ws, rfl, rfl, h1, h2, by rw [r1.length, r2.length, size_lit]; exact hz, fun t ht => ?_⟩
  exact fin_lst S (r1.append r2) (by rw [List.length_append, size_lit]; exact hz) ht k
theorem ok_add : OkOp K mg true (rAddAll K) dAdd := by
  intro m s H x y dx dy d Q S rx ry e k
  have k' : ∀ v H', Grw H H' → RV K mg m H' d v → (∀ l, d = .lst l → NewL K mg m H H' l v) → Q v H' := fun v H' g r f => k v H' g r fun _ => f
  have gen : ∀ a b, asL s dx = some a → asL s dy = some b → a.length + b.length ≤ 16777216 → d = .lst (a ++ b) → rAddAll K x y H Q := by
    intro a b ea eb hz hd
    subst hd
    exact .inr (.inr (.inr (ok_addL S rx ry ea eb hz k')))
  unfold dAdd at e
  split at e
  · cases e
    exact .inl ⟨_, _, rx.int', ry.int', fin_sc RV.int (fun _ z => nomatch z) k'⟩
  · split at e
    · cases e
      rename_i h
      exact .inr (.inl ⟨_, _, rx.str', ry.str', by rw [size_lit]; exact h, fin_sc RV.str (fun _ z => nomatch z) k'⟩)
    · cases e
  · rename_i a b
    split at e
    · cases e
      rename_i h
      obtain ⟨p, vs, rfl, h1, z1, r1⟩ := rx.tup'
      obtain ⟨q, ws, rfl, h2, z2, r2⟩ := ry.tup'
      refine .inr (.inr (.inl ⟨p, q, vs, ws, rfl, rfl, SqT.of h1, SqT.of h2, by rw [r1.length, r2.length, size_lit]; exact h, fun n1 => ?_, fun n1 n2 => ?_, fun n1 n2 t ht => ?_⟩))
      · have e1 : a = [] := by
          have q := r1.length
          rw [n1] at q
          exact List.length_eq_zero_iff.mp q.symm
        subst e1
        exact k' _ _ Grw.refl ry fun _ z => nomatch z
      · have e1 : b = [] := by
          have q := r2.length
          rw [n2] at q
          exact List.length_eq_zero_iff.mp q.symm
        subst e1
        rw [List.append_nil] at k'
        exact k' _ _ Grw.refl rx fun _ z => nomatch z
      · exact fin_tup (r1.append r2) (by rw [List.length_append, size_lit]; exact h) ht k'
    · cases e
  · rename_i a b
    split at e
    · cases e
      rename_i h
      exact gen a b rfl rfl h rfl
    · cases e
  · cases e
  · cases e
  · cases e
  · split at e
    · rename_i a b ea eb
      split at e
      · cases e
        rename_i h
        exact gen a b ea eb h.2.2 rfl
      · cases e
    · cases e
theorem ok_I2 {f : Int → Int → V} {g : Int → Int → D} (hr : ∀ m H i j, RV K mg m H (g i j) (f i j)) (hn : ∀ i j l, g i j ≠ .lst l) : OkOp K mg true (rI0 f) (dI2 g) := by
  intro m s H x y dx dy d Q S rx ry e k
  unfold dI2 at e
  split at e
  · cases e
    exact ⟨_, _, rx.int', ry.int', fin_sc (hr m H _ _) (hn _ _) fun v H' g r f => k v H' g r fun _ => f⟩
  · cases e
theorem ok_I2c {C : Int → Int → Prop} {c : Int → Int → Bool} {f : Int → Int → V} {g : Int → Int → D} (hc : ∀ i j, c i j = true → C i j) (hr : ∀ m H i j, RV K mg m H (g i j) (f i j)) (hn : ∀ i j l, g i j ≠ .lst l) : OkOp K mg true (rI C f) (dI2c c g) := by
  intro m s H x y dx dy d Q S rx ry e k
  unfold dI2c at e
  split at e
  · split at e
    · cases e
      rename_i h
      exact ⟨_, _, rx.int', ry.int', hc _ _ h, fin_sc (hr m H _ _) (hn _ _) fun v H' g r f => k v H' g r fun _ => f⟩
    · cases e
  · cases e
theorem ok_sub : OkOp K mg true (rI0 fun i j => .int (i - j)) dSub := ok_I2 (fun _ _ _ _ => RV.int) fun _ _ _ z => nomatch z
theorem ok_lt : OkOp K mg true (rI0 fun i j => .bl (decide (i < j))) dLt := ok_I2 (fun _ _ _ _ => RV.bl) fun _ _ _ z => nomatch z
theorem ok_le : OkOp K mg true (rI0 fun i j => .bl (decide (i ≤ j))) dLe := ok_I2 (fun _ _ _ _ => RV.bl) fun _ _ _ z => nomatch z
theorem ok_gt : OkOp K mg true (rI0 fun i j => .bl (decide (j < i))) dGt := ok_I2 (fun _ _ _ _ => RV.bl) fun _ _ _ z => nomatch z
theorem ok_ge : OkOp K mg true (rI0 fun i j => .bl (decide (j ≤ i))) dGe := ok_I2 (fun _ _ _ _ => RV.bl) fun _ _ _ z => nomatch z
theorem ok_mod : OkOp K mg true (rI (fun _ j => 0 < j) fun i j => .int (i % j)) dMod := ok_I2c (fun _ _ h => of_decide_eq_true h) (fun _ _ _ _ => RV.int) fun _ _ _ z => nomatch z
theorem ok_pow : OkOp K mg true (rI CPow fun i j => .int (i ^ j.toNat)) dPow := ok_I2c (fun i j h => by
  have h' := of_decide_eq_true h
  exact ⟨h'.1, by omega, h'.2.2⟩) (fun _ _ _ _ => RV.int) fun _ _ _ z => nomatch z
abbrev rFdivAll : R2 := rI (fun i j => CDiv i j ∨ CDivW i j) fun i j => .int (i / j)
theorem op_fdivAll {X : Cx} : OpR X (binaryOp .FloorDiv) rFdivAll := fun pins s σ H x y v u Q I rx ry ⟨i, j, e1, e2, hc, q⟩ => by
  rcases hc with hc | hc
  · exact op_fdiv pins s σ H x y v u Q I rx ry ⟨i, j, e1, e2, hc, q⟩
  · exact op_fdivW pins s σ H x y v u Q I rx ry ⟨i, j, e1, e2, hc, q⟩
theorem ok_fdiv : OkOp K mg true rFdivAll dFdiv := ok_I2c (fun i j h => by
  simp only [Bool.and_eq_true, Bool.or_eq_true, decide_eq_true_eq, wideI] at h
  rcases h with ⟨h1, h2 | h2⟩
  · exact .inl ⟨h1, h2⟩
  · exact .inr ⟨h1, h2⟩) (fun _ _ _ _ => RV.int) fun _ _ _ z => nomatch z
abbrev rMulAll (K : PySem.W.Frag) : R2 := fun x y H Q => rI CMul (fun i j => .int (i * j)) x y H Q ∨ rI CMulW (fun i j => .int (i * j)) x y H Q ∨ rRepT K x y H Q ∨ rRep x y H Q
theorem op_mulAll {X : Cx} : OpR X (binaryOp .Mult) (rMulAll X.K) := OpR.or op_mul (OpR.or op_mulW (OpR.or op_repT op_rep))
theorem RVs.rep {ds : List D} {vs : List V} (h : RVs K mg m H ds vs) : ∀ k : Nat, RVs K mg m H (List.replicate k ds).flatten (List.replicate k vs).flatten
  | 0 => by simp [RVs.nil]
  | k + 1 => by
    rw [List.replicate_succ, List.replicate_succ, List.flatten_cons, List.flatten_cons]
    exact h.append (RVs.rep h k)
theorem len_rep {α : Type} (l : List α) : ∀ k : Nat, (List.replicate k l).flatten.length = l.length * k
  | 0 => by simp
  | k + 1 => by rw [List.replicate_succ, List.flatten_cons, List.length_append, len_rep l k, Nat.mul_succ, Nat.add_comm]
theorem ok_mul : OkOp K mg true (rMulAll K) dMul := by
  intro m s H x y dx dy d Q S rx ry e k
  have k' : ∀ v H', Grw H H' → RV K mg m H' d v → (∀ l, d = .lst l → NewL K mg m H H' l v) → Q v H' := fun v H' g r f => k v H' g r fun _ => f
  unfold dMul at e
  split at e
  · split at e
    · cases e
      rename_i i j h
      simp only [Bool.or_eq_true, Bool.and_eq_true, smallI, wideI, decide_eq_true_eq] at h
      rcases h with (h | h) | ⟨h, h2⟩
      · exact .inl ⟨_, _, rx.int', ry.int', .inl h, fin_sc RV.int (fun _ z => nomatch z) k'⟩
      · exact .inl ⟨_, _, rx.int', ry.int', .inr h, fin_sc RV.int (fun _ z => nomatch z) k'⟩
      · exact .inr (.inl ⟨_, _, rx.int', ry.int', by show _ < 1000000; omega, fin_sc RV.int (fun _ z => nomatch z) k'⟩)
    · cases e
  · rename_i l j
    split at e
    · cases e
      rename_i h
      obtain ⟨n1, n2, n3, n4⟩ := h
      obtain ⟨p, vs, rfl, h1, z1, r1⟩ := rx.tup'
      refine .inr (.inr (.inl ⟨p, j, vs, rfl, ry.int', SqT.of h1, fun z => n1 ?_, n2, n3, by rw [r1.length]; exact n4, fun t ht => ?_⟩))
      · have q := r1.length
        rw [z] at q
        exact List.length_eq_zero_iff.mp q.symm
      · refine fin_tup (r1.rep _) ?_ ht k'
        rw [len_rep, size_lit]
        have : l.length * j.toNat ≤ 1000 * 1000 := Nat.mul_le_mul n4 (by omega)
        omega
    · cases e
  · rename_i l j
    split at e
    · cases e
      rename_i h
      obtain ⟨n1, n2, n3⟩ := h
      obtain ⟨p, vs, rfl, h1, _, _, z1, r1⟩ := rx.lst'
      refine .inr (.inr (.inr ⟨p, j, vs, rfl, ry.int', h1, by omega, by omega, by rw [r1.length, size_lit]; exact n3, fun t ht => ?_⟩))
      exact fin_lst S (r1.rep _) (by rw [len_rep, size_lit]; exact n3) ht k'
    · cases e
  · cases e
/-! equality -/
theorem toPy_lay : (∀ d : D, isData d = true → (toPy d).canLay0 = true ∧ (toPy d).depth = depthD d) ∧ ∀ l : List D, isDataL l = true → PyData.canLayAll0 (toPyL l) = true ∧ PyData.depthAll (toPyL l) = depthL l := by
  have hd : ∀ d : D, isData d = true → (toPy d).canLay0 = true ∧ (toPy d).depth = depthD d := fun d => by
    refine D.rec (motive_1 := fun d => isData d = true → (toPy d).canLay0 = true ∧ (toPy d).depth = depthD d) (motive_2 := fun l => isDataL l = true → PyData.canLayAll0 (toPyL l) = true ∧ PyData.depthAll (toPyL l) = depthL l)
      ?_ ?_ ?_ ?_ ?_ ?_ ?_ ?_ ?_ ?_ ?_ ?_ ?_ d
    all_goals first
      | (intros; rename_i ih h; simp only [isData, toPy, PyData.canLay0, PyData.depth, depthD] at *; exact ⟨(ih h).1, by rw [(ih h).2]⟩)
      | (intros; simp_all [isData, toPy, PyData.canLay0, PyData.depth, depthD, isDataL, toPyL, PyData.canLayAll0, PyData.depthAll, depthL])
  refine ⟨hd, fun l => ?_⟩
  induction l with
  | nil => intro _; simp [toPyL, PyData.canLayAll0, PyData.depthAll, depthL]
  | cons d l ih =>
    intro h
    simp only [isDataL, Bool.and_eq_true] at h
    simp [toPyL, PyData.canLayAll0, PyData.depthAll, depthL, hd d h.1, ih h.2]
theorem shaped_of {d : D} (h : okD d = true) : SeqAt.shaped (toPy d) = true := by
  unfold okD at h
  simp only [Bool.and_eq_true, decide_eq_true_eq] at h
  obtain ⟨h1, h2⟩ := toPy_lay.1 d h.1
  unfold SeqAt.shaped
  rw [h1, h2]
  simp
  omega
mutual
theorem eqv_deq : ∀ (d e : D), isData d = true → isData e = true → PyData.eqv (toPy d) (toPy e) = deq d e
  | .tup l, e, h, h' => by
    cases e <;> simp only [isData, Bool.false_eq_true] at h h' <;> simp [toPy, PyData.eqv, deq]
    exact eqv_deqL l _ h h'
  | .lst l, e, h, h' => by
    cases e <;> simp only [isData, Bool.false_eq_true] at h h' <;> simp [toPy, PyData.eqv, deq]
    exact eqv_deqL l _ h h'
  | .non, e, h, h' => by cases e <;> simp only [isData, Bool.false_eq_true] at h h' <;> simp [toPy, PyData.eqv, deq]
  | .bl _, e, h, h' => by cases e <;> simp only [isData, Bool.false_eq_true] at h h' <;> simp [toPy, PyData.eqv, deq]
  | .int _, e, h, h' => by cases e <;> simp only [isData, Bool.false_eq_true] at h h' <;> simp [toPy, PyData.eqv, deq]
  | .str _, e, h, h' => by cases e <;> simp only [isData, Bool.false_eq_true] at h h' <;> simp [toPy, PyData.eqv, deq]
  | .cel _, e, h, _ => by simp [isData] at h
  | .obj _, e, h, _ => by simp [isData] at h
  | .fn _, e, h, _ => by simp [isData] at h
  | .ty _, e, h, _ => by simp [isData] at h
  | .scr _, e, h, _ => by simp [isData] at h
theorem eqv_deqL : ∀ (l e : List D), isDataL l = true → isDataL e = true → PyData.eqvAll (toPyL l) (toPyL e) = deqL l e
  | [], [], _, _ => by simp [toPyL, PyData.eqvAll, deqL]
  | [], _ :: _, _, _ => by simp [toPyL, PyData.eqvAll, deqL]
  | _ :: _, [], _, _ => by simp [toPyL, PyData.eqvAll, deqL]
  | d :: l, e :: r, h, h' => by
    simp only [isDataL, Bool.and_eq_true] at h h'
    simp only [toPyL, PyData.eqvAll, deqL]
    rw [eqv_deq d e h.1 h'.1, eqv_deqL l r h.2 h'.2]
end
mutual
theorem Dp_of : ∀ (d : D) (v : V), isData d = true → RV K mg m H d v → Dp K H v (toPy d)
  | .non, _, _, r => by rw [r.non']; unfold toPy; exact .non
  | .bl _, _, _, r => by rw [r.bl']; unfold toPy; exact .bl _
  | .int _, _, _, r => by rw [r.int']; unfold toPy; exact .int _
  | .str _, _, _, r => by rw [r.str']; unfold toPy; exact .str _
  | .tup l, _, h, r => by
    obtain ⟨a, vs, e, h1, _, r1⟩ := r.tup'
    rw [e]
    unfold toPy
    exact .tup (SqT.of h1) (Dp_ofL l vs (by unfold isData at h; exact h) r1)
  | .lst l, _, h, r => by
    obtain ⟨a, vs, e, h1, _, _, _, r1⟩ := r.lst'
    rw [e]
    unfold toPy
    exact .lst (SqL.of h1) (Dp_ofL l vs (by unfold isData at h; exact h) r1)
  | .cel _, _, h, _ => by simp [isData] at h
  | .obj _, _, h, _ => by simp [isData] at h
  | .fn _, _, h, _ => by simp [isData] at h
  | .ty _, _, h, _ => by simp [isData] at h
  | .scr _, _, h, _ => by simp [isData] at h
theorem Dp_ofL : ∀ (l : List D) (vs : List V), isDataL l = true → RVs K mg m H l vs → DpAll K H vs (toPyL l)
  | [], _, _, r => by rw [RVs.nil.mp r]; unfold toPyL; exact .nil
  | d :: l, _, h, r => by
    simp only [isDataL, Bool.and_eq_true] at h
    obtain ⟨v, w, e, r1, r2⟩ := RVs.cons.mp r
    rw [e]
    unfold toPyL
    exact .cons (Dp_of d v h.1 r1) (Dp_ofL l w h.2 r2)
end
theorem Dp_deref (S : Sim K mg m s H) {d : D} {v : V} (h : isData (deref s d) = true) (r : RV K mg m H d v) : Dp K H v (toPy (deref s d)) := by
  cases d with
  | cel n =>
    obtain ⟨a, e1, h1⟩ := r.cel'
    cases q : s.cel[n]? with
    | none =>
      have hd : deref s (.cel n) = .cel n := by unfold deref; simp only [q]
      rw [hd] at h; simp [isData] at h
    | some l =>
      have hd : deref s (.cel n) = .lst l := by unfold deref; simp only [q]
      rw [hd] at h ⊢
      obtain ⟨_, hz, vs, h2, h3⟩ := S.ce n a l h1 q
      subst e1
      unfold toPy
      exact .lst (SqL.of h2) (Dp_ofL l vs (by unfold isData at h; exact h) h3)
  | _ => exact Dp_of _ v h r
theorem okD_data {d : D} (h : okD d = true) : isData d = true := (Bool.and_eq_true_iff.mp h).1
theorem ok_eq : OkOp K mg true (rEqD K) dEq := by
  intro m s H x y dx dy d Q S rx ry e k
  unfold dEq at e
  split at e
  · cases e
    rename_i h
    obtain ⟨h1, h2⟩ := Bool.and_eq_true_iff.mp h
    refine ⟨_, _, Dp_deref S (okD_data h1) rx, Dp_deref S (okD_data h2) ry, shaped_of h1, shaped_of h2, ?_⟩
    rw [eqv_deq _ _ (okD_data h1) (okD_data h2)]
    exact fin_sc RV.bl (fun _ z => nomatch z) fun v H' g r f => k v H' g r fun _ => f
  · cases e
theorem ok_ne : OkOp K mg true (rNeD K) dNe := by
  intro m s H x y dx dy d Q S rx ry e k
  unfold dNe at e
  split at e
  · cases e
    rename_i h
    obtain ⟨h1, h2⟩ := Bool.and_eq_true_iff.mp h
    refine ⟨_, _, Dp_deref S (okD_data h1) rx, Dp_deref S (okD_data h2) ry, shaped_of h1, shaped_of h2, ?_⟩
    rw [eqv_deq _ _ (okD_data h1) (okD_data h2)]
    exact fin_sc RV.bl (fun _ z => nomatch z) fun v H' g r f => k v H' g r fun _ => f
  · cases e
theorem isN_dec {d : D} {v : V} (r : RV K mg m H d v) : decide (v = V.non) = isNon d := by
  cases d with
  | non => rw [r.non']; rfl
  | bl _ => rw [r.bl']; rfl
  | int _ => rw [r.int']; rfl
  | str _ => rw [r.str']; rfl
  | ty _ => rw [r.ty']; rfl
  | tup _ => obtain ⟨a, _, e, _⟩ := r.tup'; rw [e]; rfl
  | lst _ => obtain ⟨a, _, e, _⟩ := r.lst'; rw [e]; rfl
  | cel _ => obtain ⟨a, e, _⟩ := r.cel'; rw [e]; rfl
  | obj _ => unfold RV at r; obtain ⟨a, e, _⟩ := r; rw [e]; rfl
  | fn _ => unfold RV at r; obtain ⟨a, e, _⟩ := r; rw [e]; rfl
  | scr _ => unfold RV at r; obtain ⟨a, e, _⟩ := r; rw [e]; rfl
theorem ok_isN : OkOp K mg true (fun x y H Q => y = .non ∧ Q (.bl (decide (x = .non))) H) dIsN := by
  intro m s H x y dx dy d Q S rx ry e k
  unfold dIsN at e
  split at e
  · cases e
    exact ⟨ry.non', by rw [isN_dec rx]; exact fin_sc RV.bl (fun _ z => nomatch z) fun v H' g r f => k v H' g r fun _ => f⟩
  · cases e
theorem ok_notN : OkOp K mg true (fun x y H Q => y = .non ∧ Q (.bl (!decide (x = .non))) H) dNotN := by
  intro m s H x y dx dy d Q S rx ry e k
  unfold dNotN at e
  split at e
  · cases e
    exact ⟨ry.non', by rw [isN_dec rx]; exact fin_sc RV.bl (fun _ z => nomatch z) fun v H' g r f => k v H' g r fun _ => f⟩
  · cases e
end
end G

end
section
namespace G
open PySem PySem.Spec L2
variable [Tb]
/-! ### in -/
abbrev rInT (K : PySem.W.Frag) (b : Bool) : R2 := fun x y H Q => ∃ d ds, Dp K H x d ∧ Dp K H y (.tuple ds) ∧ SeqAt.shaped d = true ∧ SeqAt.shaped (.tuple ds) = true ∧ Q (.bl (b != ds.any fun z => PyData.eqv z d)) H
theorem op_inT {X : Cx} (hu : X.A.units + 65 < cLine) : OpR X (compareOp .In) (rInT X.K false) := by
  intro pins s σ H x y v u Q I rx ry h
  obtain ⟨d, ds, hd, he, sd, se, q⟩ := h
  obtain ⟨as, r1⟩ := Dp.reads I d x v hd rx
  obtain ⟨bs, r2⟩ := Dp.reads I (.tuple ds) y u he ry
  have hr : X.A.units + 1 + min (PyData.depthAll ds) d.depth < cLine := by
    have := SeqAt.depth_of_shaped sd
    omega
  exact SeqAt.in_tuple_reads r2 r1 (SeqAt.canLay_of_shaped se) (SeqAt.canLay_of_shaped sd) hr ⟨.bl _, H, I, by simp [RelV], q⟩
theorem op_notInT {X : Cx} (hu : X.A.units + 65 < cLine) : OpR X (compareOp .NotIn) (rInT X.K true) := by
  intro pins s σ H x y v u Q I rx ry h
  obtain ⟨d, ds, hd, he, sd, se, q⟩ := h
  obtain ⟨as, r1⟩ := Dp.reads I d x v hd rx
  obtain ⟨bs, r2⟩ := Dp.reads I (.tuple ds) y u he ry
  have hr : X.A.units + 1 + min (PyData.depthAll ds) d.depth < cLine := by
    have := SeqAt.depth_of_shaped sd
    omega
  exact SeqAt.notIn_tuple_reads r2 r1 (SeqAt.canLay_of_shaped se) (SeqAt.canLay_of_shaped sd) hr ⟨.bl _, H, I, by simp [RelV], q⟩
abbrev rInAll (K : PySem.W.Frag) : R2 := fun x y H Q => rInD K x y H Q ∨ rInT K false x y H Q ∨ (∃ (c : Nat) (z : Str), x = .str ⟨#[c]⟩ ∧ y = .str z ∧ Q (.bl (decide (c ∈ z.cps.toList))) H)
abbrev rNotInAll (K : PySem.W.Frag) : R2 := fun x y H Q => rNotInD K x y H Q ∨ rInT K true x y H Q ∨ (∃ (c : Nat) (z : Str), x = .str ⟨#[c]⟩ ∧ y = .str z ∧ Q (.bl (!decide (c ∈ z.cps.toList))) H)
theorem op_inAll {X : Cx} (hu : X.A.units + 65 < cLine) : OpR X (compareOp .In) (rInAll X.K) := OpR.or (op_inD hu) (OpR.or (op_inT hu) op_in_sign)
theorem op_notInAll {X : Cx} (hu : X.A.units + 65 < cLine) : OpR X (compareOp .NotIn) (rNotInAll X.K) := OpR.or (op_notInD hu) (OpR.or (op_notInT hu) op_notIn_sign)
section
variable {K : PySem.W.Frag} {mg : Str → Option Value} {m : WM} {H : Hp} {s : Sto}
theorem any_toPy {x : D} (hx : isData x = true) : ∀ l : List D, isDataL l = true → ((toPyL l).any fun z => PyData.eqv z (toPy x)) = l.any fun z => deq z x
  | [], _ => by simp [toPyL]
  | d :: l, h => by
    simp only [isDataL, Bool.and_eq_true] at h
    simp only [toPyL, List.any_cons]
    rw [eqv_deq d x h.1 hx, any_toPy hx l h.2]
theorem str_one {c : Str} (h : c.length = 1) : c = ⟨#[c.cps.getD 0 0]⟩ := by
  obtain ⟨⟨l⟩⟩ := c
  have h' : l.length = 1 := h
  match l, h' with
  | [a], _ => rfl
theorem inB_cases {x y : V} {dx dy : D} {b : Bool} (S : Sim K mg m s H) (rx : RV K mg m H dx x) (ry : RV K mg m H dy y) (e : dInB s dx dy = some b) :
    (∃ d ds, Dp K H x d ∧ Dp K H y (.list ds) ∧ SeqAt.shaped d = true ∧ SeqAt.shaped (.list ds) = true ∧ (ds.any fun z => PyData.eqv z d) = b) ∨
    (∃ d ds, Dp K H x d ∧ Dp K H y (.tuple ds) ∧ SeqAt.shaped d = true ∧ SeqAt.shaped (.tuple ds) = true ∧ (ds.any fun z => PyData.eqv z d) = b) ∨
    (∃ (c : Nat) (z : Str), x = .str ⟨#[c]⟩ ∧ y = .str z ∧ decide (c ∈ z.cps.toList) = b) := by
  unfold dInB at e
  split at e
  · rename_i l hl
    split at e
    · cases e
      rename_i h
      obtain ⟨h1, h2⟩ := Bool.and_eq_true_iff.mp h
      have hd : isDataL l = true := by have := okD_data h2; unfold isData at this; exact this
      refine .inl ⟨toPy dx, toPyL l, Dp_of _ _ (okD_data h1) rx, ?_, shaped_of h1, ?_, any_toPy (okD_data h1) l hd⟩
      · have := Dp_deref S (by rw [hl]; exact okD_data h2) ry
        rw [hl] at this
        unfold toPy at this
        exact this
      · have := shaped_of h2
        unfold toPy at this
        exact this
    · cases e
  · rename_i l hl
    split at e
    · cases e
      rename_i h
      obtain ⟨h1, h2⟩ := Bool.and_eq_true_iff.mp h
      have hd : isDataL l = true := by have := okD_data h2; unfold isData at this; exact this
      refine .inr (.inl ⟨toPy dx, toPyL l, Dp_of _ _ (okD_data h1) rx, ?_, shaped_of h1, ?_, any_toPy (okD_data h1) l hd⟩)
      · have := Dp_deref S (by rw [hl]; exact okD_data h2) ry
        rw [hl] at this
        unfold toPy at this
        exact this
      · have := shaped_of h2
        unfold toPy at this
        exact this
    · cases e
  · rename_i z hz
    have ey : dy = .str z := by
      cases dy with
      | cel n =>
        unfold deref at hz
        simp only at hz
        split at hz <;> cases hz
      | _ => exact hz
    subst ey
    split at e
    · rename_i c
      split at e
      · cases e
        rename_i h
        refine .inr (.inr ⟨_, z, ?_, ry.str', rfl⟩)
        rw [rx.str', ← str_one h]
      · cases e
    · cases e
  · cases e
theorem ok_in : OkOp K mg true (rInAll K) dIn := by
  intro m s H x y dx dy d Q S rx ry e k
  have k' : ∀ v H', Grw H H' → RV K mg m H' d v → (∀ l, d = .lst l → NewL K mg m H H' l v) → Q v H' := fun v H' g r f => k v H' g r fun _ => f
  unfold dIn at e
  cases q : dInB s dx dy with
  | none => rw [q] at e; cases e
  | some b =>
    rw [q] at e
    cases e
    rcases inB_cases S rx ry q with ⟨d, ds, h1, h2, h3, h4, e⟩ | ⟨d, ds, h1, h2, h3, h4, e⟩ | ⟨c, z, h1, h2, e⟩
    · exact .inl ⟨d, ds, h1, h2, h3, h4, by rw [e]; exact fin_sc RV.bl (fun _ z => nomatch z) k'⟩
    · exact .inr (.inl ⟨d, ds, h1, h2, h3, h4, by rw [e, Bool.false_bne]; exact fin_sc RV.bl (fun _ z => nomatch z) k'⟩)
    · exact .inr (.inr ⟨c, z, h1, h2, by rw [e]; exact fin_sc RV.bl (fun _ z => nomatch z) k'⟩)
theorem ok_notIn : OkOp K mg true (rNotInAll K) dNotIn := by
  intro m s H x y dx dy d Q S rx ry e k
  have k' : ∀ v H', Grw H H' → RV K mg m H' d v → (∀ l, d = .lst l → NewL K mg m H H' l v) → Q v H' := fun v H' g r f => k v H' g r fun _ => f
  unfold dNotIn at e
  cases q : dInB s dx dy with
  | none => rw [q] at e; cases e
  | some b =>
    rw [q] at e
    cases e
    rcases inB_cases S rx ry q with ⟨d, ds, h1, h2, h3, h4, e⟩ | ⟨d, ds, h1, h2, h3, h4, e⟩ | ⟨c, z, h1, h2, e⟩
    · exact .inl ⟨d, ds, h1, h2, h3, h4, by rw [e]; exact fin_sc RV.bl (fun _ z => nomatch z) k'⟩
    · exact .inr (.inl ⟨d, ds, h1, h2, h3, h4, by rw [e, Bool.true_bne]; exact fin_sc RV.bl (fun _ z => nomatch z) k'⟩)
    · exact .inr (.inr ⟨c, z, h1, h2, by rw [e]; exact fin_sc RV.bl (fun _ z => nomatch z) k'⟩)
/-! ### -x -/
def dNeg : Sto → D → Option D := fun _ x => match x with
  | .int i => some (.int (-i))
  | _ => none
theorem ok_neg : OkU K mg true (rU fun i => .int (-i)) dNeg := by
  intro m s H x dx d Q S rx e k
  unfold dNeg at e
  split at e
  · cases e
    exact ⟨_, rx.int', fin_sc RV.int (fun _ z => nomatch z) fun v H' g r f => k v H' g r fun _ => f⟩
  · cases e
/-! ### isinstance -/
def tyN : D → Option String
  | .non => some "NoneType"
  | .bl _ => some "bool"
  | .int _ => some "int"
  | .str _ => some "str"
  | .tup _ => some "tuple"
  | .lst _ => some "list"
  | .cel _ => some "list"
  | _ => none
def isiB (a b : String) : Option Bool := match b with
  | "int" => some (a == "int" || a == "bool")
  | "bool" => some (a == "bool")
  | "str" => some (a == "str")
  | "tuple" => some (a == "tuple")
  | "list" => some (a == "list")
  | _ => none
def gIsi : GL := fun _ ds => match ds with
  | [x, .ty T] => (tyN x).bind fun a => (isiB a T).map .bl
  | _ => none
theorem kit_all : ∀ a ∈ ["NoneType", "bool", "int", "str", "tuple", "list"], ∀ b ∈ ["int", "bool", "str", "tuple", "list"], kitB a b = isiB a b := by decide +kernel
theorem tyN_of (S : Sim K mg m s H) {d : D} {v : V} {a : String} (r : RV K mg m H d v) (e : tyN d = some a) (hc : ∀ n, d = .cel n → n < s.cel.length) : TyX K H v (.type a) := by
  cases d with
  | non => cases e; rw [r.non']; exact .base .non
  | bl _ => cases e; rw [r.bl']; exact .base (.bl _)
  | int _ => cases e; rw [r.int']; exact .base (.int _)
  | str _ => cases e; rw [r.str']; exact .base (.str _)
  | tup _ => cases e; obtain ⟨p, vs, e1, h1, _⟩ := r.tup'; rw [e1]; exact .base (.tup h1)
  | lst _ => cases e; obtain ⟨p, vs, e1, h1, _⟩ := r.lst'; rw [e1]; exact .base (.lst h1)
  | cel n =>
    cases e
    obtain ⟨p, e1, h1⟩ := r.cel'
    obtain ⟨_, _, vs, h2, _⟩ := S.ce n p _ h1 (List.getElem?_eq_getElem (hc n rfl))
    rw [e1]; exact .base (.lst h2)
  | _ => cases e
theorem Sim.celLt (S : Sim K mg m s H) {n : Nat} {v : V} (r : RV K mg m H (.cel n) v) : n < s.cel.length := by
  obtain ⟨a, _, h⟩ := r.cel'
  rw [← S.cl]
  exact (List.getElem?_eq_some_iff.mp h).1
theorem ok_isi : OkL K mg true (rIsi K) gIsi := by
  intro m s H xs ds d Q S r e k
  unfold gIsi at e
  split at e
  · rename_i x T
    obtain ⟨v, w, e1, r1, r2⟩ := RVs.cons.mp r
    obtain ⟨v2, w2, e2, r3, r4⟩ := RVs.cons.mp r2
    rw [RVs.nil] at r4
    subst e1 e2 r4
    cases q : tyN x with
    | none => rw [q] at e; cases e
    | some a =>
      rw [q] at e
      cases q2 : isiB a T with
      | none => rw [Option.bind_some, q2] at e; cases e
      | some b =>
        rw [Option.bind_some, q2] at e
        cases e
        have ha : a ∈ ["NoneType", "bool", "int", "str", "tuple", "list"] := by
          unfold tyN at q
          split at q <;> cases q <;> decide
        have hT : T ∈ ["int", "bool", "str", "tuple", "list"] := by
          unfold isiB at q2
          split at q2 <;> first | decide | cases q2
        rw [r3.ty']
        refine ⟨v, .ty T, .type a, .type T, b, rfl, .ty T, tyN_of S r1 q (fun n hn => by subst hn; exact S.celLt r1), kit_ty (by rw [kit_all a ha T hT, q2]), ?_⟩
        exact fin_sc RV.bl (fun _ z => nomatch z) fun v H' g r f => k v H' g r fun _ => f
  · cases e
/-! ### built-ins by values -/
theorem one {d : D} {xs : List V} (r : RVs K mg m H [d] xs) : ∃ v, xs = [v] ∧ RV K mg m H d v := by
  obtain ⟨v, w, e1, r1, r2⟩ := RVs.cons.mp r
  rw [RVs.nil] at r2
  subst r2
  exact ⟨v, e1, r1⟩
theorem two {d e : D} {xs : List V} (r : RVs K mg m H [d, e] xs) : ∃ v w, xs = [v, w] ∧ RV K mg m H d v ∧ RV K mg m H e w := by
  obtain ⟨v, w, e1, r1, r2⟩ := RVs.cons.mp r
  obtain ⟨w', e2, r3⟩ := one r2
  subst e2
  exact ⟨v, w', e1, r1, r3⟩
def gLen : GL := fun s ds => match ds with
  | [.tup l] => some (.int l.length)
  | [.str x] => if x.length ≤ 16777216 then some (.int x.length) else none
  | [.scr l] => some (.int l.length)
  | [d] => (asL s d).map fun l => .int l.length
  | _ => none
abbrev rLenAll (K : PySem.W.Frag) : List V → Hp → VK → Prop := fun xs H Q => (∃ p ys, xs = [.ref p] ∧ (SqL K H p ys ∨ SqT K H p ys) ∧ Q (.int ys.length) H) ∨ (∃ z, xs = [.str z] ∧ z.length ≤ sizeLine ∧ Q (.int z.length) H)
theorem call_lenAll {X : Cx} : CallR X (.builtin "len") (rLenAll X.K) := CallR.or call_len_seq call_len_str
theorem ok_len : OkL K mg true (rLenAll K) gLen := by
  intro m s H xs ds d Q S r e k
  have k' : ∀ v H', Grw H H' → RV K mg m H' d v → (∀ l, d = .lst l → NewL K mg m H H' l v) → Q v H' := fun v H' g r f => k v H' g r fun _ => f
  unfold gLen at e
  split at e
  · cases e
    obtain ⟨v, rfl, r1⟩ := one r
    obtain ⟨p, vs, rfl, h1, _, r2⟩ := r1.tup'
    exact .inl ⟨p, vs, rfl, .inr (SqT.of h1), by rw [r2.length]; exact fin_sc RV.int (fun _ z => nomatch z) k'⟩
  · split at e
    · cases e
      rename_i h
      obtain ⟨v, rfl, r1⟩ := one r
      exact .inr ⟨_, by rw [r1.str'], by rw [size_lit]; exact h, fin_sc RV.int (fun _ z => nomatch z) k'⟩
    · cases e
  · cases e
    obtain ⟨v, rfl, r1⟩ := one r
    unfold RV at r1
    obtain ⟨a, rfl, _, h1⟩ := r1
    exact .inl ⟨a, _, rfl, .inl (ScrAt.sq' h1), by rw [List.length_map]; exact fin_sc RV.int (fun _ z => nomatch z) k'⟩
  · rename_i dd _ _ _
    cases q : asL s dd with
    | none => rw [q] at e; cases e
    | some l =>
      rw [q] at e
      cases e
      obtain ⟨v, rfl, r1⟩ := one r
      obtain ⟨p, vs, rfl, h1, _, r2⟩ := asL_at S r1 q
      exact .inl ⟨p, vs, rfl, .inl (SqL.of h1), by rw [r2.length]; exact fin_sc RV.int (fun _ z => nomatch z) k'⟩
  · cases e
def gAbs : GL := fun _ ds => match ds with
  | [.int i] => some (.int (if i < 0 then -i else i))
  | _ => none
theorem ok_abs : OkL K mg true (fun xs H Q => ∃ i, xs = [.int i] ∧ Q (.int (if i < 0 then -i else i)) H) gAbs := by
  intro m s H xs ds d Q S r e k
  unfold gAbs at e
  split at e
  · cases e
    obtain ⟨v, rfl, r1⟩ := one r
    exact ⟨_, by rw [r1.int'], fin_sc RV.int (fun _ z => nomatch z) fun v H' g r f => k v H' g r fun _ => f⟩
  · cases e
def gMax2 : GL := fun _ ds => match ds with
  | [.int i, .int j] => some (.int (if j > i then j else i))
  | _ => none
def gMin2 : GL := fun _ ds => match ds with
  | [.int i, .int j] => some (.int (if j < i then j else i))
  | _ => none
theorem ok_max2 : OkL K mg true (fun xs H Q => ∃ i j, xs = [.int i, .int j] ∧ Q (.int (if j > i then j else i)) H) gMax2 := by
  intro m s H xs ds d Q S r e k
  unfold gMax2 at e
  split at e
  · cases e
    obtain ⟨v, w, rfl, r1, r2⟩ := two r
    exact ⟨_, _, by rw [r1.int', r2.int'], fin_sc RV.int (fun _ z => nomatch z) fun v H' g r f => k v H' g r fun _ => f⟩
  · cases e
theorem ok_min2 : OkL K mg true (fun xs H Q => ∃ i j, xs = [.int i, .int j] ∧ Q (.int (if j < i then j else i)) H) gMin2 := by
  intro m s H xs ds d Q S r e k
  unfold gMin2 at e
  split at e
  · cases e
    obtain ⟨v, w, rfl, r1, r2⟩ := two r
    exact ⟨_, _, by rw [r1.int', r2.int'], fin_sc RV.int (fun _ z => nomatch z) fun v H' g r f => k v H' g r fun _ => f⟩
  · cases e
def gInt : GL := fun _ ds => match ds with
  | [.int i] => some (.int i)
  | [.bl b] => some (.int (if b then 1 else 0))
  | _ => none
theorem ok_int : OkL K mg true (fun xs H Q => (∃ i, xs = [.int i] ∧ Q (.int i) H) ∨ ∃ k, xs = [.bl k] ∧ Q (.int (if k then 1 else 0)) H) gInt := by
  intro m s H xs ds d Q S r e k
  unfold gInt at e
  split at e
  · cases e
    obtain ⟨v, rfl, r1⟩ := one r
    exact .inl ⟨_, by rw [r1.int'], fin_sc RV.int (fun _ z => nomatch z) fun v H' g r f => k v H' g r fun _ => f⟩
  · cases e
    obtain ⟨v, rfl, r1⟩ := one r
    exact .inr ⟨_, by rw [r1.bl'], fin_sc RV.int (fun _ z => nomatch z) fun v H' g r f => k v H' g r fun _ => f⟩
  · cases e
def gBool : GL := fun _ ds => match ds with
  | [.bl b] => some (.bl b)
  | _ => none
theorem ok_bool : OkL K mg true (fun xs H Q => (∃ i, xs = [.int i] ∧ Q (.bl (i != 0)) H) ∨ ∃ k, xs = [.bl k] ∧ Q (.bl k) H) gBool := by
  intro m s H xs ds d Q S r e k
  unfold gBool at e
  split at e
  · cases e
    obtain ⟨v, rfl, r1⟩ := one r
    exact .inr ⟨_, by rw [r1.bl'], fin_sc RV.bl (fun _ z => nomatch z) fun v H' g r f => k v H' g r fun _ => f⟩
  · cases e
def gStrI : GL := fun _ ds => match ds with
  | [.int i] => if i.natAbs.log2 < 1920 then some (.str (toString i)) else none
  | _ => none
theorem ok_strI : OkL K mg true (fun xs H Q => ∃ i : Int, xs = [.int i] ∧ i.natAbs.log2 < 1920 ∧ Q (.str (toString i)) H) gStrI := by
  intro m s H xs ds d Q S r e k
  unfold gStrI at e
  split at e
  · split at e
    · cases e
      rename_i h
      obtain ⟨v, rfl, r1⟩ := one r
      exact ⟨_, by rw [r1.int'], h, fin_sc RV.str (fun _ z => nomatch z) fun v H' g r f => k v H' g r fun _ => f⟩
    · cases e
  · cases e
/-! truth values, numbers in a list -/
def asBools : List D → Option (List Bool)
  | [] => some []
  | .bl b :: l => (asBools l).map (b :: ·)
  | _ :: _ => none
def asInts : List D → Option (List Int)
  | [] => some []
  | .int b :: l => (asInts l).map (b :: ·)
  | _ :: _ => none
theorem asBools_at : ∀ {l : List D} {bs : List Bool} {vs : List V}, asBools l = some bs → RVs K mg m H l vs → vs = bs.map V.bl
  | [], _, _, e, r => by cases e; rw [RVs.nil.mp r]; rfl
  | d :: l, _, _, e, r => by
    cases d with
    | bl b =>
      unfold asBools at e
      cases q : asBools l with
      | none => rw [q] at e; cases e
      | some bs' =>
        rw [q] at e
        cases e
        obtain ⟨v, w, e1, r1, r2⟩ := RVs.cons.mp r
        rw [e1, r1.bl', asBools_at q r2]
        rfl
    | _ => cases e
theorem asInts_at : ∀ {l : List D} {bs : List Int} {vs : List V}, asInts l = some bs → RVs K mg m H l vs → vs = bs.map V.int
  | [], _, _, e, r => by cases e; rw [RVs.nil.mp r]; rfl
  | d :: l, _, _, e, r => by
    cases d with
    | int b =>
      unfold asInts at e
      cases q : asInts l with
      | none => rw [q] at e; cases e
      | some bs' =>
        rw [q] at e
        cases e
        obtain ⟨v, w, e1, r1, r2⟩ := RVs.cons.mp r
        rw [e1, r1.int', asInts_at q r2]
        rfl
    | _ => cases e
def gAll : GL := fun s ds => match ds with
  | [.lst l] => (asBools l).map fun bs => .bl (bs.all id)
  | _ => none
def gAny : GL := fun s ds => match ds with
  | [.lst l] => (asBools l).map fun bs => .bl (bs.any id)
  | _ => none
def gSum : GL := fun s ds => match ds with
  | [.lst l] => (asInts l).map fun bs => .int bs.sum
  | _ => none
theorem ok_all : OkL K mg true (rAll K) gAll := by
  intro m s H xs ds d Q S r e k
  unfold gAll at e
  split at e
  · rename_i l
    cases q : asBools l with
    | none => rw [q] at e; cases e
    | some bs =>
      rw [q] at e
      cases e
      obtain ⟨v, rfl, r1⟩ := one r
      obtain ⟨p, vs, rfl, h1, _, _, _, r2⟩ := r1.lst'
      have ev := asBools_at q r2
      subst ev
      exact ⟨p, bs, rfl, SqL.of h1, fin_sc RV.bl (fun _ z => nomatch z) fun v H' g r f => k v H' g r fun _ => f⟩
  · cases e
theorem ok_any : OkL K mg true (rAny K) gAny := by
  intro m s H xs ds d Q S r e k
  unfold gAny at e
  split at e
  · rename_i l
    cases q : asBools l with
    | none => rw [q] at e; cases e
    | some bs =>
      rw [q] at e
      cases e
      obtain ⟨v, rfl, r1⟩ := one r
      obtain ⟨p, vs, rfl, h1, _, _, _, r2⟩ := r1.lst'
      have ev := asBools_at q r2
      subst ev
      exact ⟨p, bs, rfl, SqL.of h1, fin_sc RV.bl (fun _ z => nomatch z) fun v H' g r f => k v H' g r fun _ => f⟩
  · cases e
theorem ok_sum : OkL K mg true (rSum K) gSum := by
  intro m s H xs ds d Q S r e k
  unfold gSum at e
  split at e
  · rename_i l
    cases q : asInts l with
    | none => rw [q] at e; cases e
    | some bs =>
      rw [q] at e
      cases e
      obtain ⟨v, rfl, r1⟩ := one r
      obtain ⟨p, vs, rfl, h1, _, _, _, r2⟩ := r1.lst'
      have ev := asInts_at q r2
      subst ev
      exact ⟨p, bs, rfl, SqL.of h1, fin_sc RV.int (fun _ z => nomatch z) fun v H' g r f => k v H' g r fun _ => f⟩
  · cases e
/-! tuple(x), list(x) -/
def gTup : GL := fun s ds => match ds with
  | [.tup l] => some (.tup l)
  | [.lst l] => some (.tup l)
  | [.cel n] => match s.cel[n]? with
    | some l => some (.tup l)
    | none => none
  | _ => none
def gLst : GL := fun s ds => match ds with
  | [.tup l] => some (.lst l)
  | [d] => (asL s d).map .lst
  | _ => none
abbrev rTupAll (K : PySem.W.Frag) : List V → Hp → VK → Prop := fun xs H Q => ∃ p ys, xs = [.ref p] ∧ ((SqL K H p ys ∧ ∀ l, H l = none → Q (.ref l) (upd H l (.tup ys))) ∨ (SqT K H p ys ∧ Q (.ref p) H))
theorem ok_tup : OkL K mg true (rTupAll K) gTup := by
  intro m s H xs ds d Q S r e k
  have k' : ∀ v H', Grw H H' → RV K mg m H' d v → (∀ l, d = .lst l → NewL K mg m H H' l v) → Q v H' := fun v H' g r f => k v H' g r fun _ => f
  unfold gTup at e
  split at e
  · cases e
    obtain ⟨v, rfl, r1⟩ := one r
    obtain ⟨p, vs, rfl, h1, hz, r2⟩ := r1.tup'
    exact ⟨p, vs, rfl, .inr ⟨SqT.of h1, k' _ _ Grw.refl r1 fun _ z => nomatch z⟩⟩
  · cases e
    obtain ⟨v, rfl, r1⟩ := one r
    obtain ⟨p, vs, rfl, h1, _, _, hz, r2⟩ := r1.lst'
    exact ⟨p, vs, rfl, .inl ⟨SqL.of h1, fun l hl => fin_tup r2 hz hl k'⟩⟩
  · rename_i n
    cases q : s.cel[n]? with
    | none => rw [q] at e; cases e
    | some l =>
      rw [q] at e
      cases e
      obtain ⟨v, rfl, r1⟩ := one r
      obtain ⟨p, vs, rfl, h1, hz, r2⟩ := asL_at S (d := .cel n) r1 q
      exact ⟨p, vs, rfl, .inl ⟨SqL.of h1, fun l hl => fin_tup r2 hz hl k'⟩⟩
  · cases e
theorem ok_lst : OkL K mg true (fun xs H Q => ∃ p ys, xs = [.ref p] ∧ (SqL K H p ys ∨ SqT K H p ys) ∧ ∀ l, H l = none → Q (.ref l) (upd H l (.lst ys))) gLst := by
  intro m s H xs ds d Q S r e k
  have k' : ∀ v H', Grw H H' → RV K mg m H' d v → (∀ l, d = .lst l → NewL K mg m H H' l v) → Q v H' := fun v H' g r f => k v H' g r fun _ => f
  unfold gLst at e
  split at e
  · cases e
    obtain ⟨v, rfl, r1⟩ := one r
    obtain ⟨p, vs, rfl, h1, hz, r2⟩ := r1.tup'
    exact ⟨p, vs, rfl, .inr (SqT.of h1), fun l hl => fin_lst S r2 hz hl k'⟩
  · rename_i dd _
    cases q : asL s dd with
    | none => rw [q] at e; cases e
    | some l =>
      rw [q] at e
      cases e
      obtain ⟨v, rfl, r1⟩ := one r
      obtain ⟨p, vs, rfl, h1, hz, r2⟩ := asL_at S r1 q
      exact ⟨p, vs, rfl, .inl (SqL.of h1), fun l hl => fin_lst S r2 hz hl k'⟩
  · cases e
end
end G

end
section
namespace G
open PySem PySem.Spec L2
open PyProof.Rows (envOfC)
variable [Tb]
/-! ### changeable lists -/
section
variable {K : PySem.W.Frag} {mg : Str → Option Value} {m m' : WM} {H H' : Hp} {s : Sto}
theorem Sim.setCel {n : Nat} {a : Addr} {ys : List D} {vs ws : List V} (S : Sim K mg m s H) (hn : m.phi[n]? = some a) (h : H a = some (.lst vs)) (hp : pureL ys = true) (hz : ys.length ≤ sizeLine) (r : RVs K mg m H ys ws) :
    Sim K mg m { s with cel := s.cel.set n ys } (upd H a (.lst ws)) ∧ Stp m H m (upd H a (.lst ws)) := by
  have ha : a ∈ m.phi := List.mem_of_getElem? hn
  have st : Stp m H m (upd H a (.lst ws)) := by
    refine ⟨⟨[], by simp⟩, ⟨[], by simp⟩, rfl, fun b xs hb => ?_, fun b xs hb n1 => ?_, fun b o u hb => ?_, fun b hb => ?_⟩
    · rw [upd_ne (ne_of hb h (by intro z; cases z))]; exact hb
    · rw [upd_ne (fun z => n1 (by rw [z]; exact ha))]; exact hb
    · rw [upd_ne (ne_of hb h (by intro z; cases z))]; exact hb
    · by_cases e : b = a
      · rw [e] at hb; exact (Fr.lstSame hb).elim
      · rw [Fr.up e] at hb; exact hb
  refine ⟨⟨by rw [S.cl]; simp, S.nd, fun k b zs e1 e2 => ?_, fun b hb => ⟨(S.al b hb).1, fun z => (S.al b hb).2 (st.dom b z)⟩, S.ol, fun k p o e1 e2 => ?_, S.on, tabs_up S.tb h⟩, st⟩
  · by_cases hk : k = n
    · subst hk
      rw [hn] at e1
      cases e1
      have hl : k < s.cel.length := by rw [← S.cl]; exact (List.getElem?_eq_some_iff.mp hn).1
      have e3 : (s.cel.set k ys)[k]? = some zs := e2
      rw [List.getElem?_set_self hl] at e3
      cases e3
      exact ⟨hp, hz, ws, upd_same, RVs.mono st.wk _ _ r⟩
    · have e3 : (s.cel.set n ys)[k]? = some zs := e2
      rw [List.getElem?_set_ne (Ne.symm hk)] at e3
      obtain ⟨h0, hz', us, h1, h2⟩ := S.ce k b zs e1 e3
      have hb : b ≠ a := by
        intro z
        subst z
        obtain ⟨hk1, hk2⟩ := List.getElem?_eq_some_iff.mp e1
        obtain ⟨hn1, hn2⟩ := List.getElem?_eq_some_iff.mp hn
        exact hk ((List.getElem_inj S.nd).mp (hk2.trans hn2.symm))
      exact ⟨h0, hz', us, by rw [upd_ne hb]; exact h1, RVs.mono st.wk _ _ h2⟩
  · obtain ⟨C, fs, h0, h1, h2⟩ := S.ob k p o e1 e2
    exact ⟨C, fs, h0, by rw [upd_ne (ne_of h1 h (by intro z; cases z))]; exact h1, FsR.mono st.wk h2⟩
/-- a new list becomes a changeable one -/
theorem Sim.newCel {H0 : Hp} {m0 : WM} {a : Addr} {l : List D} {vs : List V} (S : Sim K mg m s H) (S2 : Sim K mg { m with av := a :: m.av } s H) (h : H a = some (.lst vs)) (hp : pureL l = true) (hz : l.length ≤ sizeLine) (r : RVs K mg m H l vs) (na : a ∉ m.av)
    (st : Stp m0 H0 m H) (hn : Fr H0 a) (ph : ∃ t, m.phi = m0.phi ++ t ∧ ∀ b ∈ t, Fr H0 b) (nr : RVs K mg { m with av := a :: m.av } H l vs) : Sim K mg { m with phi := m.phi ++ [a] } { s with cel := s.cel ++ [l] } H ∧ Stp m0 H0 { m with phi := m.phi ++ [a] } H := by
  have nphi : a ∉ m.phi := (S2.al a List.mem_cons_self).1
  have sh : ∀ (d : D) (v : V), RV K mg { m with av := a :: m.av } H d v → RV K mg { m with phi := m.phi ++ [a] } H d v := by
    have key : ∀ d : D, (∀ v, RV K mg { m with av := a :: m.av } H d v → RV K mg { m with phi := m.phi ++ [a] } H d v) := fun d => by
      refine D.rec (motive_1 := fun d => ∀ v, RV K mg { m with av := a :: m.av } H d v → RV K mg { m with phi := m.phi ++ [a] } H d v) (motive_2 := fun l => ∀ vs, RVs K mg { m with av := a :: m.av } H l vs → RVs K mg { m with phi := m.phi ++ [a] } H l vs)
        ?_ ?_ ?_ ?_ ?_ ?_ ?_ ?_ ?_ ?_ ?_ ?_ ?_ d
      · intro v h; unfold RV at h ⊢; exact h
      · intro _ v h; unfold RV at h ⊢; exact h
      · intro _ v h; unfold RV at h ⊢; exact h
      · intro _ v h; unfold RV at h ⊢; exact h
      · intro l ih v h
        unfold RV at h ⊢
        obtain ⟨p, us, e, h1, hl, h2⟩ := h
        exact ⟨p, us, e, h1, hl, ih us h2⟩
      · intro l ih v h
        unfold RV at h ⊢
        obtain ⟨p, us, e, h1, n1, n2, hl, h2⟩ := h
        refine ⟨p, us, e, h1, fun z => ?_, fun z => n2 (List.mem_cons_of_mem _ z), hl, ih us h2⟩
        rcases List.mem_append.mp z with z | z
        · exact n1 z
        · exact n2 (by rw [List.mem_singleton.mp z]; exact List.mem_cons_self)
      · intro n v h
        unfold RV at h ⊢
        obtain ⟨p, e, h1⟩ := h
        refine ⟨p, e, ?_⟩
        show (m.phi ++ [a])[n]? = some p
        rw [List.getElem?_append_left (List.getElem?_eq_some_iff.mp h1).1]
        exact h1
      · intro n v h; unfold RV at h ⊢; exact h
      · intro n v h; unfold RV at h ⊢; exact h
      · intro n v h; unfold RV at h ⊢; exact h
      · intro n v h
        unfold RV at h ⊢
        obtain ⟨p, e, hl, q⟩ := h
        refine ⟨p, e, hl, q.imp id fun ⟨q1, n1, n2⟩ => ⟨q1, fun z => ?_, fun z => n2 (List.mem_cons_of_mem _ z)⟩⟩
        rcases List.mem_append.mp z with z | z
        · exact n1 z
        · exact n2 (by rw [List.mem_singleton.mp z]; exact List.mem_cons_self)
      · intro vs h; rw [RVs.nil] at h ⊢; exact h
      · intro d l ihd ihl vs h
        obtain ⟨v, r, e, h1, h2⟩ := RVs.cons.mp h
        exact RVs.cons.mpr ⟨v, r, e, ihd v h1, ihl r h2⟩
    exact fun d v h => key d v h
  have shL : ∀ (ds : List D) (us : List V), RVs K mg { m with av := a :: m.av } H ds us → RVs K mg { m with phi := m.phi ++ [a] } H ds us := by
    intro ds
    induction ds with
    | nil => intro us h; rw [RVs.nil] at h ⊢; exact h
    | cons d ds ih =>
      intro us h
      obtain ⟨v, r, e, h1, h2⟩ := RVs.cons.mp h
      exact RVs.cons.mpr ⟨v, r, e, sh d v h1, ih r h2⟩
  refine ⟨⟨?_, ?_, fun k b zs e1 e2 => ?_, fun b hb => ⟨fun z => ?_, (S.al b hb).2⟩, S.ol, fun k p o e1 e2 => ?_, S.on, S.tb⟩, ?_⟩
  · show (m.phi ++ [a]).length = (s.cel ++ [l]).length
    rw [List.length_append, List.length_append, S.cl]; rfl
  · show (m.phi ++ [a]).Nodup
    exact List.nodup_append.mpr ⟨S.nd, by simp, fun b hb c hc e => by
      rw [List.mem_singleton.mp hc] at e
      exact nphi (e ▸ hb)⟩
  · have e1' : (m.phi ++ [a])[k]? = some b := e1
    have e2' : (s.cel ++ [l])[k]? = some zs := e2
    by_cases hk : k < m.phi.length
    · rw [List.getElem?_append_left hk] at e1'
      rw [List.getElem?_append_left (by rw [← S.cl]; exact hk)] at e2'
      obtain ⟨h0, hz', us, h1, h2⟩ := S2.ce k b zs e1' e2'
      exact ⟨h0, hz', us, h1, shL _ _ h2⟩
    · rw [List.getElem?_append_right (by omega)] at e1'
      rw [List.getElem?_append_right (by rw [← S.cl]; omega), ← S.cl] at e2'
      have hk0 : k - m.phi.length = 0 := by
        have := (List.getElem?_eq_some_iff.mp e1').1
        simp at this
        omega
      rw [hk0] at e1' e2'
      simp at e1' e2'
      subst e1' e2'
      exact ⟨hp, hz, vs, h, shL _ _ nr⟩
  · rcases List.mem_append.mp z with z | z
    · exact (S.al b hb).1 z
    · exact na (by rw [List.mem_singleton.mp z] at hb; exact hb)
  · obtain ⟨C, fs, h0, h1, h2⟩ := S2.ob k p o e1 e2
    exact ⟨C, fs, h0, h1, h2.1, shL _ _ h2.2.1, h2.2.2⟩
  · obtain ⟨t, e, ht⟩ := ph
    refine ⟨⟨t ++ [a], by rw [← List.append_assoc, ← e], fun b hb => ?_⟩, st.psi, st.av, st.tup, fun b xs hb n1 => st.lst b xs hb n1, st.frz, st.dom⟩
    rcases List.mem_append.mp hb with hb | hb
    · exact ht b hb
    · rw [List.mem_singleton.mp hb]; exact hn
end
/-! ### targets -/
abbrev GT := D → Env → Sto → Option (Env × Sto)
def gtName (i : Nat) : GT := fun d env s => some (env.set i (some d), s)
def setCel (s : Sto) (n : Nat) (l : List D) : Sto := { s with cel := s.cel.set n l }
/-- o[i] = d, o a changeable list -/
def putCel (s : Sto) (o i d : D) : Option Sto := match o, i with
  | .cel n, .int k => (s.cel[n]?).bind fun xs => (ixN xs.length k).bind fun j => if d.pure = true then some (setCel s n (xs.set j d)) else none
  | _, _ => none
def gtSub (fo fi : E) : GT := fun d env s => match fo env s with
  | .ok o s1 => (match fi env s1 with
    | .ok i s2 => (putCel s2 o i d).map fun s3 => (env, s3)
    | _ => none)
  | _ => none
def gtTups : List GT → List D → Env → Sto → Option (Env × Sto)
  | [], [], env, s => some (env, s)
  | g :: gs, d :: ds, env, s => (g d env s).bind fun p => gtTups gs ds p.1 p.2
  | _, _, _, _ => none
def gtTup (gs : List GT) : GT := fun d env s => match d with
  | .tup ds => gtTups gs ds env s
  | _ => none
def sAsg (g : GT) (f : E) : SM := fun env s => (f env s).st env fun d s1 => match g d env s1 with
  | some p => .ok .nx p.1 p.2
  | none => .bad
section
variable (K : PySem.W.Frag) (mg : Str → Option Value)
def KontE (m : WM) (H : Hp) (r : Option (Env × Sto)) (Q : L2.St → Hp → Prop) : Prop := ∃ p, r = some p ∧ ∀ m' σ' H', Stp m H m' H' → m'.phi = m.phi → Sim K mg m' p.2 H' → EnvR K mg m' H' p.1 σ' → Q σ' H'
def tGT (g : GT) : TG := fun v σ H Q => ∃ m d env s, Sim K mg m s H ∧ RV K mg m H d v ∧ EnvR K mg m H env σ ∧ KontE K mg m H (g d env s) Q
def tGTs (gs : List GT) : TGs := fun vs σ H Q => ∃ m ds env s, Sim K mg m s H ∧ RVs K mg m H ds vs ∧ EnvR K mg m H env σ ∧ KontE K mg m H (gtTups gs ds env s) Q
end
theorem pureL_set {d : D} (hd : d.pure = true) : ∀ (l : List D) (i : Nat), pureL l = true → pureL (l.set i d) = true
  | [], _, h => h
  | x :: l, 0, h => by
    rw [pureL_cons, Bool.and_eq_true] at h
    rw [List.set_cons_zero, pureL_cons, hd, h.2]; rfl
  | x :: l, i + 1, h => by
    rw [pureL_cons, Bool.and_eq_true] at h
    rw [List.set_cons_succ, pureL_cons, h.1, pureL_set hd l i h.2]; rfl
section
variable {X : Cx} {W : WX} {fr cf fr2 fr3 fr4 : Bool} {e a b c : Expr} {fa fb fc : E} {pos : Pos}
theorem sgt_name {i : Nat} {x : Str} (hN : X.N.Nodup) (hi : X.N[i]? = some x) (hx : Loc X.env.scope x) (hf : X.fn x = true ∨ X.env.scope.names.lookup x = some .local := by first | exact .inl rfl | exact .inr rfl) : PG X (.Name x pos) (tGT X.K X.mg (gtName i)) :=
  PG.imp (pg_name hN hi hx hf) fun v σ H Q ⟨m, d, env, s, S, r, E, p, e, k⟩ => by
    cases e
    exact k m _ H Stp.refl rfl S (E.set i r)
theorem sgt_sub (ho : SE X W fr2 a fa) (hi : SE X W fr3 b fb) (ha : ∀ v, assign (.Subscript a b pos) X.env v = (do
      let ov ← holding [v] (eval a X.env)
      let iv ← holding [v, ov] (eval b X.env)
      standAt pos
      holding [v, ov, iv] (setItem ov iv v)
      release [v, ov, iv] []) := by intro _; rfl) : PG X (.Subscript a b pos) (tGT X.K X.mg (gtSub fa fb)) :=
  PG.imp (pg_sub (seF ho) (seF hi) set_list ha) fun v σ H Q ⟨m, d, env, s, S, r, E, p, e, k⟩ => by
    refine ⟨m, env, s, S, E, ?_⟩
    unfold gtSub at e
    cases qo : fa env s with
    | bad => rw [qo] at e; cases e
    | err x s1 => rw [qo] at e; cases e
    | ok o s1 =>
      rw [qo] at e
      simp only at e
      intro vo m1 H1 t1 t2 t3 t4
      refine ⟨m1, env, s1, t3, E.mono t1.wk, ?_⟩
      cases qi : fb env s1 with
      | bad => rw [qi] at e; cases e
      | err x s2 => rw [qi] at e; cases e
      | ok i s2 =>
        rw [qi] at e
        simp only at e
        intro vi m2 H2 u1 u2 u3 u4
        cases qp : putCel s2 o i d with
        | none => rw [qp] at e; cases e
        | some s3 =>
          rw [qp] at e
          cases e
          cases o with
          | cel n =>
            cases i with
            | int j =>
              obtain ⟨q, ep, hp⟩ := (RV.mono u1.wk _ _ t4.1).cel'
              unfold putCel at qp
              simp only at qp
              cases qx : s2.cel[n]? with
              | none => rw [qx] at qp; cases qp
              | some xs =>
                rw [qx, Option.bind_some] at qp
                obtain ⟨h0, hz, vs, h1, h2⟩ := u3.ce n q xs hp qx
                cases q2 : ixN xs.length j with
                | none => rw [q2] at qp; cases qp
                | some jj =>
                  rw [q2, Option.bind_some] at qp
                  split at qp
                  · rename_i hd
                    cases qp
                    refine ⟨q, vs, j, jj, ep, u4.1.int', h1, by rw [h2.length]; exact q2, ?_⟩
                    obtain ⟨S3, st3⟩ := u3.setCel hp h1 (pureL_set hd xs jj h0) (by rw [List.length_set]; exact hz) (h2.set jj (RV.mono (t1.trans u1).wk _ _ r))
                    exact k m2 σ _ ((t1.trans u1).trans st3) (u2.trans t2) S3 (((E.mono t1.wk).mono u1.wk).mono st3.wk)
                  · cases qp
            | _ => cases qp
          | _ => cases qp
theorem sgts_nil : PGs X [] (tGTs X.K X.mg []) := PGs.imp pgs_nil fun vs σ H Q ⟨m, ds, env, s, S, r, E, p, e, k⟩ => by
  cases ds with
  | nil =>
    cases e
    exact ⟨RVs.nil.mp r, k m σ H Stp.refl rfl S E⟩
  | cons d ds => cases e
theorem sgts_cons {es : List Expr} {g : GT} {gs : List GT} (h1 : PG X e (tGT X.K X.mg g)) (h2 : PGs X es (tGTs X.K X.mg gs)) (hs : (assignEach (e :: es) X.env).map (·.2) = assign e X.env :: (assignEach es X.env).map (·.2) := by rfl) : PGs X (e :: es) (tGTs X.K X.mg (g :: gs)) :=
  PGs.imp (pgs_cons h1 h2 hs) fun vs σ H Q ⟨m, ds, env, s, S, r, E, p, e, k⟩ => by
    cases ds with
    | nil => cases e
    | cons d ds =>
      obtain ⟨v, w, e1, r1, r2⟩ := RVs.cons.mp r
      refine ⟨v, w, e1, m, d, env, s, S, r1, E, ?_⟩
      unfold gtTups at e
      cases q : g d env s with
      | none => rw [q] at e; cases e
      | some p1 =>
        rw [q, Option.bind_some] at e
        exact ⟨p1, rfl, fun m' σ' H' x1 x2 x3 x4 => ⟨m', ds, p1.1, p1.2, x3, RVs.mono x1.wk _ _ r2, x4, p, e, fun m2 σ2 H2 y1 y2 y3 y4 => k m2 σ2 H2 (x1.trans y1) (y2.trans x2) y3 y4⟩⟩
theorem gtTups_len : ∀ {gs : List GT} {ds : List D} {env : Env} {s : Sto} {p : Env × Sto}, gtTups gs ds env s = some p → ds.length = gs.length
  | [], [], _, _, _, _ => rfl
  | [], _ :: _, _, _, _, h => by cases h
  | _ :: _, [], _, _, _, h => by cases h
  | g :: gs, d :: ds, env, s, p, h => by
    unfold gtTups at h
    cases q : g d env s with
    | none => rw [q] at h; cases h
    | some p1 =>
      rw [q, Option.bind_some] at h
      rw [List.length_cons, List.length_cons, gtTups_len h]
theorem sgt_tup {es : List Expr} {k : Nat} {gs : List GT} {n : Nat} (hc : X.calm = true) (h : PGs X es (tGTs X.K X.mg gs)) (hn : (assignEach es X.env).length = n := by rfl) (hl : gs.length = n := by rfl) (hst : (assignEach es X.env).findIdx? (·.1) = none := by rfl) : PG X (.Tuple es k pos) (tGT X.K X.mg (gtTup gs)) :=
  PG.imp (pg_tup hc h hn hst) fun v σ H Q ⟨m, d, env, s, S, r, E, p, e, k⟩ => by
    cases d with
    | tup ds =>
      obtain ⟨a, vs, e1, h1, hz, r1⟩ := r.tup'
      exact ⟨a, vs, e1, SqT.of h1, by rw [r1.length, gtTups_len (show gtTups gs ds env s = some p from e), hl], m, ds, env, s, S, r1, E, p, e, k⟩
    | _ => cases e
theorem ss_asgG {tg : Expr} {g : GT} (he : SE X W fr2 e fa) (hg : PG X tg (tGT X.K X.mg g)) (hs : swapsWithSole [tg] e pos.line X.env = pure false := by rfl) (hw : swappedStores [tg] e X.env = pure none := by rfl) (h1 : (assignEach [tg] X.env).map (·.2) = [assign tg X.env] := by rfl) :
    SS X W fr cf (.Assign [tg] e pos) (sAsg g fa) := PS.imp (ps_asg (seF he) hg hs hw h1) fun D σ H ⟨m, env, s, S, E, k⟩ => by
  refine ⟨m, env, s, S, E, (KontS.st k E).imp fun x H1 ⟨d, s1, m1, e1, A, E1, k1⟩ => ⟨m1, d, env, s1, A.sim, A.rel.1, E1, ?_⟩⟩
  cases q : g d env s1 with
  | none => rw [q] at k1; exact k1.elim
  | some p =>
    rw [q] at k1
    exact ⟨p, rfl, fun m' σ' H' x1 x2 x3 x4 => k1 m' σ' H' x1 (fun _ => x2) x3 x4⟩
/-! ### name = a new list that will be changed -/
def newCel (s : Sto) (l : List D) : Sto := { s with cel := s.cel ++ [l] }
def sCel (i : Nat) (f : E) : SM := fun env s => (f env s).st env fun d s1 => match d with
  | .lst l => if pureL l = true then .ok .nx (env.set i (some (.cel s1.cel.length))) (newCel s1 l) else .bad
  | _ => .bad
theorem ss_cel {i : Nat} {x : Str} {pos' : Pos} (hN : X.N.Nodup) (hi : X.N[i]? = some x) (hx : Loc X.env.scope x) (he : SE X W true e fa) (hs : swapsWith e (some (.Name x pos')) pos.line X.env = pure false := by rfl) (hf : X.fn x = true ∨ X.env.scope.names.lookup x = some .local := by first | exact .inl rfl | exact .inr rfl) :
    SS X W fr true (.Assign [.Name x pos'] e pos) (sCel i fa) := PS.imp (ps_set hN hi hx he hs hf) fun D σ H ⟨m, env, s, S, E, k⟩ => by
  refine ⟨m, env, s, S, E, (KontS.st k E).imp fun x H1 ⟨d, s1, m1, e1, A, E1, k1⟩ => ?_⟩
  cases d with
  | lst l =>
    simp only at k1
    split at k1
    · rename_i hp
      obtain ⟨a, vs, ex, h1, n1, n2, hz, r1⟩ := A.rel.1.lst'
      subst ex
      obtain ⟨hn, S2, vs2, h2, r2⟩ := A.rel.2 rfl l a rfl rfl
      rw [h1] at h2
      cases h2
      obtain ⟨S3, st3⟩ := A.sim.newCel S2 h1 hp hz r1 n2 A.st hn ⟨[], by rw [A.ph]; simp, by simp⟩ r2
      have k2 : KontS X.K X.mg W fr true m1 H1 (.ok .nx (env.set i (some (.cel s1.cel.length))) (newCel s1 l)) D := k1
      have k3 : KontS X.K X.mg W fr true m H ((fa env s).st env fun d s1 => match d with | .lst l => if pureL l = true then .ok .nx (env.set i (some (.cel s1.cel.length))) (newCel s1 l) else .bad | _ => .bad) D := k
      rw [e1] at k3
      simp only [Res.st_ok, if_pos hp] at k3
      refine k3 _ _ H1 st3 (fun z => nomatch z) S3 ((E.mono st3.wk).set i ?_)
      unfold RV
      refine ⟨a, rfl, ?_⟩
      show (m1.phi ++ [a])[s1.cel.length]? = some a
      rw [← A.sim.cl, List.getElem?_append_right (Nat.le_refl _), Nat.sub_self]
      rfl
    · exact k1.elim
  | _ => exact k1.elim
end
end G

end
section
namespace G
open PySem PySem.Spec L2
open PyProof.Rows (envOfC)
variable [Tb]
/-! ### a def that makes changeable lists -/
section
variable {fr : Bool} {n k : Nat}
theorem def_okC {P : Program} {w : World} {K : PySem.W.Frag} {mg : Str → Option Value} {base : Heap} {x qual : Str} {params : Arguments} {body : List Stmt} {scope : Scope} {f : Addr} {fd : FuncData} {N ps : List Str} {g : SM}
    (F : FunD K x qual params body scope [] [] f fd) (S : FnScope N ps scope) (hn : ps.length = n)
    (hbody : ∀ (cdv : Value) (A : Around) (outer : List PySem.Env) (s : Shared) (H : Hp) (E : XK), Room k (A.deeper (envOfC qual scope s.heap.objs.size f cdv)) → SSs (cxOf (L2.CX P w) P w K mg base N qual scope f cdv A outer s H E) (fun c d _ H => E c d H) false true body g) :
    FnOk P w K mg base (L2.CX P w) (k + 1) f fd ps (spD K mg n false (defC N.length g)) := by
  refine F.ok S (fun vs H Q E ⟨m, ds, s, _, r, hl, _⟩ => by rw [r.length, hl, hn]) fun cdv A outer s H vs Q E hr hsp => ⟨_, hbody cdv A outer s H E hr, ?_⟩
  obtain ⟨m, ds, s0, S0, r, hl, kk⟩ := hsp
  refine ⟨m, _, s0, S0, startE_ok r, ?_⟩
  have kk' : KontG K mg (RD K mg false H) E m H (match g (startE N.length ds) s0 with | .ok (.rt d) _ s' => .ok (fz s0.cel.length s'.cel d) (cut s0.cel.length s') | .ok .nx _ s' => .ok .non (cut s0.cel.length s') | .err x _ s' => .err x (cut s0.cel.length s') | _ => .bad) Q := kk
  revert kk'
  cases g (startE N.length ds) s0 with
  | ok fl env' s' =>
    cases fl with
    | rt d =>
      intro k m' σ' H' x1 x2 x3 x4 v x5
      obtain ⟨t, e, ht⟩ := x1.phi
      exact k v { m' with phi := m.phi } H' x1.cut rfl (x3.cut e S0.cl) ⟨RV.fz x3 e S0.cl d v x5.1, fun z => nomatch z⟩
    | nx =>
      intro k m' σ' H' x1 x2 x3 x4
      obtain ⟨t, e, ht⟩ := x1.phi
      exact k .non { m' with phi := m.phi } H' x1.cut rfl (x3.cut e S0.cl) ⟨RV.non, fun z => nomatch z⟩
    | bk => exact fun k => k.elim
    | ct => exact fun k => k.elim
  | err x env' s' =>
    intro k c dx m' σ' H' x1 x2 x3 x4 x5
    obtain ⟨t, e, ht⟩ := x1.phi
    exact k c dx { m' with phi := m.phi } H' x1.cut rfl (x3.cut e S0.cl) x5
  | bad => exact fun k => k.elim
end
/-! ### methods of built-in types -/
abbrev GM := Sto → D → List D → Option (D × Sto)
def OkM (K : PySem.W.Frag) (mg : Str → Option Value) (T : String) (r : V → List V → Hp → VK → Prop) (g : GM) : Prop := ∀ m s H x xs dx ds p (Q : VK), Sim K mg m s H → RV K mg m H dx x → RVs K mg m H ds xs → g s dx ds = some p →
  (∀ v H', Stp m H m H' → Sim K mg m p.2 H' → RV K mg m H' p.1 v → Q v H') → r x xs H Q
def tyD (T : String) : D → Bool
  | .str _ => T == "str"
  | .lst _ => T == "list"
  | .cel _ => T == "list"
  | _ => false
def resM : Option (D × Sto) → Res D
  | some p => .ok p.1 p.2
  | none => .bad
def eMeth (T : String) (g : GM) (fo : E) (gl : EL) : E := fun env s => (fo env s).bind fun o s1 => if tyD T o = true then (gl env s1).bind fun ds s2 => resM (g s2 o ds) else .bad
section
variable {X : Cx} {W : WX} {fr cf fr2 fr3 fr4 : Bool} {e a b c o : Expr} {es : List Expr} {fa fb fc fo : E} {gl : EL} {pos apos cpos : Pos} {n : Nat} {T id : String} {name : Str} {r : V → List V → Hp → VK → Prop} {g : GM}
theorem tyV_of {K : PySem.W.Frag} {mg : Str → Option Value} {m : WM} {H : Hp} {s : Sto} (S : Sim K mg m s H) {d : D} {v : V} (rv : RV K mg m H d v) (h : tyD T d = true) : tyV K T v H := by
  cases d with
  | str x => rw [rv.str']; exact beq_iff_eq.mp h
  | lst l =>
    obtain ⟨p, vs, e, h1, _⟩ := rv.lst'
    rw [e]
    exact .inl ⟨beq_iff_eq.mp h, vs, SqL.of h1⟩
  | cel i =>
    obtain ⟨p, e, h1⟩ := rv.cel'
    have hl := S.celLt rv
    obtain ⟨_, _, vs, h2, _⟩ := S.ce i p _ h1 (List.getElem?_eq_getElem hl)
    rw [e]
    exact .inl ⟨beq_iff_eq.mp h, vs, SqL.of h2⟩
  | _ => cases h
theorem se_bm (pa : PlainAttrs T) (slot : Slot T name id) (hty : typeOf (.builtin id) = pure (.type "method_descriptor")) (hm : MtR X id r) (hg : OkM X.K X.mg T r g) (ho : SE X W fr2 o fo) (ha : SA X W n (e :: es) gl)
    (hbase : attributeBase o name X.env (eval o X.env) = eval o X.env := by rfl)
    (hfew : ((backTo cpos (starEach (e :: es) X.env)).all (fun x => !x.1) && (backToKw cpos (keywordEach [] X.env)).all (fun x => x.1.isSome)
      && decide ((e :: es).length + ([] : List Keyword).length + (if ([] : List Keyword).isEmpty then 0 else 1) < 30)) = true := by rfl)
    (hline : (apos.endLine == cpos.line) = true := by rfl) (hs : starEach (e :: es) X.env = (false, eval e X.env) :: starEach es X.env := by rfl) (hplain : (backTo cpos (starEach es X.env)).any (·.1) = false := by rfl) :
    SE X W false (.Call (.Attribute o name apos) (e :: es) [] cpos) (eMeth T g fo gl) := PE.imp (pe_bm pa slot hty hm (seF ho) ha hbase hfew hline hs hplain) fun σ H Q ⟨m, env, s, S, E, k⟩ => by
  refine ⟨m, env, s, S, E, (KontG.bind (R := RD X.K X.mg false H) k).imp fun x H1 ⟨dx, s1, m1, e1, A, k1⟩ => ?_⟩
  split at k1
  · rename_i q
    refine ⟨tyV_of A.sim A.rel.1 q, m1, env, s1, A.sim, E.mono A.st.wk, (KontG.bind (k1.moveD A.st A.ph)).imp fun xs H2 ⟨dxs, s2, m2, e2, B, k2⟩ => ?_⟩
    cases q2 : g s2 dx dxs with
    | none => rw [q2] at k2; exact k2.elim
    | some p =>
      rw [q2] at k2
      exact hg m2 s2 H2 x xs dx dxs p Q B.sim (RV.mono B.st.wk _ _ A.rel.1) B.rel.1 q2 fun v H' st S' r' => k2 v m2 H' (B.st.trans st) B.ph S' ⟨r', fun z => nomatch z⟩
  · exact k1.elim
theorem se_bm0 (pa : PlainAttrs T) (slot : Slot T name id) (hty : typeOf (.builtin id) = pure (.type "method_descriptor")) (hm : MtR X id r) (hg : OkM X.K X.mg T r g) (ho : SE X W fr2 o fo)
    (hbase : attributeBase o name X.env (eval o X.env) = eval o X.env := by rfl) (hline : (apos.endLine == cpos.line) = true := by rfl) :
    SE X W false (.Call (.Attribute o name apos) [] [] cpos) (eMeth T g fo lNil) := PE.imp (pe_bm0 pa slot hty hm (seF ho) hbase hline) fun σ H Q ⟨m, env, s, S, E, k⟩ => by
  refine ⟨m, env, s, S, E, (KontG.bind (R := RD X.K X.mg false H) k).imp fun x H1 ⟨dx, s1, m1, e1, A, k1⟩ => ?_⟩
  split at k1
  · rename_i q
    refine ⟨tyV_of A.sim A.rel.1 q, ?_⟩
    have k2 : KontG X.K X.mg (RD X.K X.mg false H) (fun c d H' => W c d σ H') m H (resM (g s1 dx [])) Q := k1
    cases q2 : g s1 dx [] with
    | none => rw [q2] at k2; exact k2.elim
    | some p =>
      rw [q2] at k2
      exact hg m1 s1 H1 x [] dx [] p Q A.sim A.rel.1 (RVs.nil.mpr rfl) q2 fun v H' st S' r' => k2 v m1 H' (A.st.trans st) A.ph S' ⟨r', fun z => nomatch z⟩
  · exact k1.elim
end
/-! list methods on changeable lists -/
def mAppend : GM := fun s o ds => match o, ds with
  | .cel n, [d] => (s.cel[n]?).bind fun xs => if d.pure = true ∧ xs.length < 16777216 then some (.non, setCel s n (xs ++ [d])) else none
  | _, _ => none
def mPop0 : GM := fun s o ds => match o, ds with
  | .cel n, [.int 0] => (s.cel[n]?).bind fun xs => match xs with
    | d :: r => some (d, setCel s n r)
    | [] => none
  | _, _ => none
theorem pureL_append : ∀ (l r : List D), pureL (l ++ r) = (pureL l && pureL r)
  | [], r => by simp [pureL]
  | d :: l, r => by rw [List.cons_append, pureL_cons, pureL_cons, pureL_append l r, Bool.and_assoc]
section
variable {K : PySem.W.Frag} {mg : Str → Option Value}
theorem ok_append : OkM K mg "list" rAppend mAppend := by
  intro m s H x xs dx ds p Q S rx rs e k
  unfold mAppend at e
  split at e
  · rename_i n d
    obtain ⟨a, ea, hp⟩ := rx.cel'
    obtain ⟨v, ev, r1⟩ := one rs
    cases q : s.cel[n]? with
    | none => rw [q] at e; cases e
    | some l =>
      rw [q, Option.bind_some] at e
      obtain ⟨h0, hz, vs, h1, h2⟩ := S.ce n a l hp q
      split at e
      · rename_i h
        cases e
        refine ⟨a, vs, v, ea, ev, h1, by rw [h2.length, size_lit]; exact h.2, ?_⟩
        obtain ⟨S3, st3⟩ := S.setCel (ys := l ++ [d]) hp h1 (by rw [pureL_append, h0, pureL_cons, h.1]; rfl) (by rw [List.length_append, size_lit]; simp; omega) (h2.append (RVs.mk r1 (RVs.nil.mpr rfl)))
        exact k .non _ st3 S3 RV.non
      · cases e
  · cases e
theorem ok_pop0 : OkM K mg "list" rPopAt mPop0 := by
  intro m s H x xs dx ds p Q S rx rs e k
  unfold mPop0 at e
  split at e
  · rename_i n
    obtain ⟨a, ea, hp⟩ := rx.cel'
    obtain ⟨v, ev, r1⟩ := one rs
    cases q : s.cel[n]? with
    | none => rw [q] at e; cases e
    | some l =>
      rw [q, Option.bind_some] at e
      obtain ⟨h0, hz, vs, h1, h2⟩ := S.ce n a l hp q
      cases l with
      | nil => cases e
      | cons d l =>
        cases e
        obtain ⟨w, ws, e2, r2, r3⟩ := RVs.cons.mp h2
        subst e2
        rw [pureL_cons, Bool.and_eq_true] at h0
        refine ⟨a, w :: ws, 0, 0, w, ea, by rw [ev, r1.int'], h1, by decide, by decide, ?_, rfl, ?_⟩
        · exact (ixN_seq (n := (w :: ws).length) (i := 0) (j := 0) (by unfold ixN; simp)).1
        · obtain ⟨S3, st3⟩ := S.setCel (ys := l) (ws := ws) hp h1 h0.2 (by rw [List.length_cons] at hz; omega) r3
          exact k w _ st3 S3 (RV.mono st3.wk _ _ r2)
  · cases e
end
/-! ### items and slices -/
def gIx : G2 := fun s o i => match i with
  | .int k => (match o with
    | .tup l => atI l k
    | .scr l => (atI l k).map .int
    | .str z => if z.length ≤ 16777216 then (atI z.cps.toList k).map fun c => .str ⟨#[c]⟩ else none
    | d => (asL s d).bind fun l => atI l k)
  | _ => none
theorem RVs.atI {K : PySem.W.Frag} {mg : Str → Option Value} {m : WM} {H : Hp} {ds : List D} {vs : List V} {k : Int} {d : D} (h : RVs K mg m H ds vs) (e : L2.atI ds k = some d) : ∃ v, L2.atI vs k = some v ∧ RV K mg m H d v := by
  unfold L2.atI at e ⊢
  rw [h.length]
  cases q : ixN ds.length k with
  | none => rw [q] at e; cases e
  | some j =>
    rw [q] at e
    exact h.get e
theorem ok_ix {K : PySem.W.Frag} {mg : Str → Option Value} : OkOp K mg false (rIx K) gIx := by
  intro m s H x y dx dy d Q S rx ry e k
  unfold gIx at e
  split at e
  · rename_i j
    have hy := ry.int'
    subst hy
    have gen : ∀ (p : Addr) (vs : List V) (l : List D), x = .ref p → (SqL K H p vs ∨ SqT K H p vs) → RVs K mg m H l vs → L2.atI l j = some d → rIx K x (.int j) H Q := by
      intro p vs l ex hq r ea
      obtain ⟨v, ev, rv⟩ := r.atI ea
      have fin := k v H Grw.refl rv fun z => nomatch z
      rcases hq with hq | hq
      · exact .inl ⟨p, vs, j, v, ex, rfl, hq, ev, fin⟩
      · exact .inr (.inl ⟨p, vs, j, v, ex, rfl, hq, ev, fin⟩)
    split at e
    · obtain ⟨p, vs, ex, h1, _, r⟩ := rx.tup'
      exact gen p vs _ ex (.inr (SqT.of h1)) r e
    · rename_i l
      unfold RV at rx
      obtain ⟨p, ex, _, h1⟩ := rx
      have ha : ∃ i, L2.atI l j = some i ∧ d = .int i := by
        cases q : L2.atI l j with
        | none => rw [q] at e; cases e
        | some i => rw [q] at e; cases e; exact ⟨i, rfl, rfl⟩
      obtain ⟨i, hi, ed⟩ := ha
      subst ed
      have hv : L2.atI (l.map V.int) j = some (.int i) := by
        unfold L2.atI at hi ⊢
        rw [List.length_map]
        cases q : ixN l.length j with
        | none => rw [q] at hi; cases hi
        | some n =>
          rw [q, Option.bind_some] at hi
          rw [Option.bind_some, List.getElem?_map, hi]
          rfl
      exact .inl ⟨p, _, j, .int i, ex, rfl, (ScrAt.sq' h1), hv, k _ H Grw.refl RV.int fun z => nomatch z⟩
    · rename_i z
      split at e
      · rename_i hz
        cases q : L2.atI z.cps.toList j with
        | none => rw [q] at e; cases e
        | some c =>
          rw [q] at e
          cases e
          exact .inr (.inr ⟨z, j, c, rx.str', rfl, by rw [size_lit]; exact hz, q, k _ H Grw.refl RV.str fun z => nomatch z⟩)
      · cases e
    · rename_i dd _ _ _
      cases q : asL s dx with
      | none => rw [q] at e; cases e
      | some l =>
        rw [q] at e
        obtain ⟨p, vs, ex, h1, _, r⟩ := asL_at S rx q
        exact gen p vs l ex (.inl (SqL.of h1)) r e
  · cases e
section
variable {X : Cx} {W : WX} {fr cf fr2 fr3 fr4 : Bool} {e a b c : Expr} {fa fb fc : E} {pos p2 : Pos}
theorem se_ix (ha : SE X W fr2 a fa) (hb : SE X W fr3 b fb) (hs : PlainIx b) : SE X W false (.Subscript a b pos) (eOp gIx fa fb) := PE.imp (pe_ix ix_seq (seF ha) (seF hb) hs) fun σ H Q ⟨m, env, s, S, E, k⟩ => by
  refine use2 S E k fun x y m2 H2 s2 dx dy _ _ S2 E2 rx ry k2 => ?_
  obtain ⟨d, e, q⟩ := fin_of S2 k2
  exact ok_ix m2 s2 H2 x y dx dy d Q S2 rx ry e q
/-- a slice's part -/
abbrev EO := Env → Sto → Res (Option Int)
def oNone : EO := fun _ s => .ok none s
def asI : D → Option Int
  | .int i => some i
  | _ => none
def oSome (f : E) : EO := fun env s => (f env s).bind fun d s1 => Res.of s1 ((asI d).map some)
def tO (K : PySem.W.Frag) (mg : Str → Option Value) (W : WX) (g : EO) : TO := fun σ H Q => ∃ m env s, Sim K mg m s H ∧ EnvR K mg m H env σ ∧ KontG K mg (fun _ _ _ a b => a = b) (fun c d H' => W c d σ H') m H (g env s) Q
theorem PO.imp {e : Option Expr} {t t' : TO} (h : PO X e t) (i : ∀ σ H Q, t' σ H Q → t σ H Q) : PO X e t' := ⟨fun pins s σ H Q I q => h.run pins s σ H Q I (i σ H Q q)⟩
theorem so_none : PO X none (tO X.K X.mg W oNone) := PO.imp po_none fun σ H Q ⟨m, env, s, S, E, k⟩ => k.ok S rfl
theorem so_some (h : SE X W fr2 e fa) : PO X (some e) (tO X.K X.mg W (oSome fa)) := PO.imp (po_some (seF h)) fun σ H Q ⟨m, env, s, S, E, k⟩ => by
  refine ⟨m, env, s, S, E, (KontG.bind (R := RD X.K X.mg false H) k).imp fun x H1 ⟨dx, s1, m1, e1, A, k1⟩ => ?_⟩
  obtain ⟨c, ec, k2⟩ := k1.of
  cases dx with
  | int i =>
    cases ec
    exact ⟨i, A.rel.1.int', (k2.move A.st A.ph fun _ _ _ _ _ z => z).ok A.sim rfl⟩
  | _ => cases ec
def cutD (l : List D) (lo hi : Option Int) : List D := (l.drop (HT.sIx l.length 0 lo)).take (HT.sIx l.length l.length hi - HT.sIx l.length 0 lo)
def gSl (s : Sto) (d : D) (lo hi : Option Int) : Option D := match d with
  | .tup l => some (.tup (cutD l lo hi))
  | .str z => if z.length ≤ 16777216 then some (.str (cutS z lo hi)) else none
  | d => (asL s d).map fun l => .lst (cutD l lo hi)
def eSl (fa : E) (lo hi : EO) : E := fun env s => (fa env s).bind fun x s1 => (lo env s1).bind fun l s2 => (hi env s2).bind fun h s3 => Res.of s3 (gSl s3 x l h)
abbrev rSlAll (K : PySem.W.Frag) : V → Option Int → Option Int → Hp → VK → Prop := fun x lo hi H Q => rSlL K x lo hi H Q ∨ rSlA K x lo hi H Q ∨ rSlS x lo hi H Q
theorem sl_all : SlR X (rSlAll X.K) := SlR.or sl_list (SlR.or sl_tupA sl_str)
theorem RVs.cut {K : PySem.W.Frag} {mg : Str → Option Value} {m : WM} {H : Hp} {ds : List D} {vs : List V} (h : RVs K mg m H ds vs) (lo hi : Option Int) : RVs K mg m H (cutD ds lo hi) (cutV vs lo hi) := by
  unfold cutD cutV
  rw [h.length]
  exact (h.drop _).take _
theorem cutD_len (l : List D) (lo hi : Option Int) : (cutD l lo hi).length ≤ l.length := by
  unfold cutD
  rw [List.length_take, List.length_drop]
  omega
theorem ok_sl {K : PySem.W.Frag} {mg : Str → Option Value} {m : WM} {s : Sto} {H : Hp} {x : V} {dx d : D} {lo hi : Option Int} {Q : VK} (S : Sim K mg m s H) (rx : RV K mg m H dx x) (e : gSl s dx lo hi = some d)
    (k : ∀ v H', Grw H H' → RV K mg m H' d v → (∀ l, d = .lst l → NewL K mg m H H' l v) → Q v H') : rSlAll K x lo hi H Q := by
  unfold gSl at e
  split at e
  · rename_i l
    cases e
    obtain ⟨p, vs, ex, h1, hz, r⟩ := rx.tup'
    have rc := r.cut lo hi
    refine .inr (.inl ⟨p, vs, ex, SqT.of h1, fun hw => ?_, fun _ q hq => fin_tup rc (Nat.le_trans (cutD_len _ _ _) hz) hq k⟩)
    have el : cutD l lo hi = l := by
      unfold cutD
      rw [r.length] at hw
      rw [hw.1, hw.2, List.drop_zero, Nat.sub_zero, List.take_length]
    rw [el] at k
    rw [← ex]
    exact k x H Grw.refl rx fun _ z => nomatch z
  · split at e
    · rename_i h
      cases e
      exact .inr (.inr ⟨_, rx.str', by rw [size_lit]; exact h, fin_sc RV.str (fun _ z => nomatch z) k⟩)
    · cases e
  · cases q : asL s dx with
    | none => rw [q] at e; cases e
    | some l =>
      rw [q] at e
      cases e
      obtain ⟨p, vs, ex, h1, hz, r⟩ := asL_at S rx q
      exact .inl ⟨p, vs, ex, SqL.of h1, fun t ht => fin_lst S (r.cut lo hi) (Nat.le_trans (cutD_len _ _ _) hz) ht k⟩
theorem se_sl {lo hi : Option Expr} {gl gh : EO} (he : SE X W fr2 e fa) (hl : PO X lo (tO X.K X.mg W gl)) (hh : PO X hi (tO X.K X.mg W gh)) : SE X W true (.Subscript e (.Slice lo hi none p2) pos) (eSl fa gl gh) := PE.imp (pe_slice sl_all (seF he) hl hh) fun σ H Q ⟨m, env, s, S, E, k⟩ => by
  refine ⟨m, env, s, S, E, (KontG.bind (R := RD X.K X.mg false H) k).imp fun x H1 ⟨dx, s1, m1, e1, A, k1⟩ => ?_⟩
  refine ⟨m1, env, s1, A.sim, E.mono A.st.wk, (KontG.bind (k1.moveD A.st A.ph)).imp fun l H2 ⟨dl, s2, m2, e2, B, k2⟩ => ?_⟩
  refine ⟨m2, env, s2, B.sim, (E.mono A.st.wk).mono B.st.wk, (KontG.bind (k2.moveD B.st B.ph)).imp fun h H3 ⟨dh, s3, m3, e3, C, k3⟩ => ?_⟩
  have er := B.rel
  have er2 := C.rel
  subst er er2
  obtain ⟨d, ed, q⟩ := fin_of C.sim (k3.moveD C.st C.ph)
  exact ok_sl C.sim (RV.mono C.st.wk _ _ (RV.mono B.st.wk _ _ A.rel.1)) ed fun v H' g r f => q v H' g r fun _ => f
end
end G

end
section
namespace PySem
open Sem (wp)
open AutoSeq1 (wpAny_loadPart')
theorem G_enum_newT (l : Addr) (items : Array Value) (n : Nat) (dct : Option Addr) (sl : Array (Option Value)) :
    Meets (Builtin.«enumerate.__new__» ⟨[.type "enumerate", .ref l], []⟩) (fun _ R s => s.heap.get? l = some { cls := .type "tuple", dict := dct, data := .seq items n, slots := sl } ∧
      R (.ok (.ret (.ref (s.heap.push { cls := .type "tuple_iterator", data := .fields #[.ref l, .int 0 0] }).objs.size)))
        { s with heap := (s.heap.push { cls := .type "tuple_iterator", data := .fields #[.ref l, .int 0 0] }).push { cls := .type "enumerate", data := .fields #[.none, .bool false, .ref s.heap.objs.size, rawInt 0, .none, .none] } }) :=
  .of_wp fun prog w A R s h => by
    obtain ⟨hp, g, d, tk, os⟩ := s; obtain ⟨hl, h⟩ := h
    have hsub := sub_enumerate
    have hL : Heap.IsTuple (Shared.heap ⟨hp, g, d, tk, os⟩) l items := ⟨_, hl, rfl, n, rfl⟩
    wp_walk using wpAny_loadPart' hl
    refine wpAny_stack_any fun st => wpAny_pure ?_
    split
    · rename_i c _ _ _ _ _
      cases (c == Value.type "enumerate")
      · wp_walk using wpAny_loadPart' hl, wpAny_pyIter_tuple hL
        exact ⟨_, rfl, h⟩
      · wp_walk using wpAny_loadPart' hl, wpAny_pyIter_tuple hL
        exact ⟨_, rfl, h⟩
    · wp_walk using wpAny_loadPart' hl, wpAny_pyIter_tuple hL
      exact ⟨_, rfl, h⟩
theorem G_call_enumT {prog : Program} {w : World} {A : Around} {E : Value → Shared → Prop} {s : Shared} {l : Addr} {items : Array Value} {Q : Value → Shared → Prop} (hL : s.heap.IsTuple l items)
    (h : ∀ h', IsEnum h' (s.heap.objs.size + 1) s.heap.objs.size 0 .none → h'.IsTupleIter s.heap.objs.size l 0 → h'.objs.size = s.heap.objs.size + 2 →
      (∀ b o, s.heap.get? b = some o → h'.get? b = some o) → Q (.ref (s.heap.objs.size + 1)) { s with heap := h' }) :
    wpAny (model prog w) A (call (.type "enumerate") [.ref l]) Q E s := by
  obtain ⟨⟨c, dct, dt, sl⟩, hl, hc, n, hd⟩ := hL
  replace hc : c = .type "tuple" := hc
  replace hd : dt = .seq items n := hd
  subst hc hd
  refine callType_new F.called_enumerate (by decide) (F.typeCall_enumerate_1 _) (F.newCall_enumerate_1 _) (fun obj => F.args_object_init_2 obj _) F.entry_enumerate_new
    (G_enum_newT l items n dct sl) ⟨hl, ?_⟩
  have hz : (s.heap.push { cls := .type "tuple_iterator", data := .fields #[.ref l, .int 0 0] }).objs.size = s.heap.objs.size + 1 := Heap.size_push ..
  show _ ∧ _
  rw [hz]
  have he : IsEnum ((s.heap.push { cls := .type "tuple_iterator", data := .fields #[.ref l, .int 0 0] }).push { cls := .type "enumerate", data := .fields #[.none, .bool false, .ref s.heap.objs.size, rawInt 0, .none, .none] }) (s.heap.objs.size + 1) s.heap.objs.size 0 .none := by
    have := Heap.get?_push_size (s.heap.push { cls := .type "tuple_iterator", data := .fields #[.ref l, .int 0 0] }) (o := { cls := .type "enumerate", data := .fields #[.none, .bool false, .ref s.heap.objs.size, rawInt 0, .none, .none] }) rfl
    rw [hz] at this; exact this
  refine ⟨⟨_, he, rfl⟩, h _ he ⟨_, Heap.get?_push_of_some _ (Heap.get?_push_size _ rfl), rfl, rfl⟩ (by rw [Heap.size_push, hz]) fun b o x => Heap.get?_push_of_some _ (Heap.get?_push_of_some _ x)⟩
end PySem

namespace G
open PySem PySem.Spec L2
variable [Tb]
/-! ### enumerate(tuple) -/
def IteT (K : PySem.W.Frag) (a : Addr) : It :=
  ⟨fun i H => ∃ (xs : List V) (x : V), SqT K H a xs ∧ xs[i]? = some x, fun i H v H' => ∃ T x, v = .ref T ∧ H T = none ∧ H' = upd H T (.tup [.int (i : Nat), x]) ∧ ∀ xs, SqT K H a xs → xs[i]? = some x, fun i H => ∃ xs : List V, SqT K H a xs ∧ xs.length = i⟩
theorem turn_enumT {P : Program} {w : World} {K : PySem.W.Frag} {elts : List Expr} {kk : Nat} {tpos : Pos} (a e it : Addr) (hai : a ≠ it) :
    Turn P w K (.Tuple elts kk tpos) (IteT K a) [e, it] e (fun i h => (∃ old, IsEnum h e it ((i : Nat) : Int) old) ∧ h.IsTupleIter it a i ∧ e ≠ it ∧ e ≠ a) where
  mem := by simp
  obj := fun i h st b hb => by
    obtain ⟨⟨old, he⟩, ⟨o, ho, hc, hd⟩, _⟩ := st
    have e' : b = e ∨ b = it := by simpa using hb
    rcases e' with z | z
    · rw [z]; exact ⟨_, he, fun v q => nomatch q⟩
    · rw [z]; exact ⟨o, ho, fun v q => by rw [hd] at q; cases q⟩
  keep := fun i h h' st k => let ⟨⟨old, he⟩, hi, hne⟩ := st; ⟨⟨old, k e (by simp) _ he⟩, hi.at fun o q => k it (by simp) o q, hne⟩
  item := by
    intro X hP hw hK hc i pins s σ H E I hf st hg
    subst hP hw hK
    obtain ⟨⟨old, he⟩, hit, hne, hea⟩ := st
    obtain ⟨xs, x, hq, hx⟩ := hg
    obtain ⟨its, rv, p, hz⟩ := I.tuple hq
    obtain ⟨u, hu, ru⟩ := rv.get hx
    have hel : e < s.heap.objs.size := Heap.lt_size he
    have hil : it < s.heap.objs.size := by obtain ⟨_, q, _⟩ := hit; exact Heap.lt_size q
    have hh : X.A.in1.handled = none := I.ok.hd hc
    have hlt : i < its.toArray.size := by
      have := (List.getElem?_eq_some_iff.mp hu).1
      simpa using this
    refine wpAny_pyNext_enum_itemD (Draws.tuple hh it a hai its.toArray) he ⟨hit, p⟩ hlt hne (by simp [hne, hea]) fun y h' tk hy ho hst hT hsz hk => ?_
    have ey : y = u := by
      have h1 : its.toArray[i]? = some y := hy
      have h2 : its.toArray[i]? = some u := by simpa using hu
      rw [h1] at h2; exact Option.some.inj h2
    subst ey
    refine ⟨_, rfl, wpAny_letOwnedTupleGo_enum (s := { s with heap := h', toks := tk + 1 }) ho fun h'' he' sb => ?_⟩
    have hT2 : h''.get? s.heap.objs.size = some { cls := .type "tuple", data := .seq #[.int i tk, y] } := (sb.2 _ (Nat.ne_of_gt hel)).trans hT
    have new : ObjOk X.prog X.w (upd H s.heap.objs.size (.tup [.int (i : Nat), x])) h'' s.heap.objs.size (.tup [.int (i : Nat), x]) :=
      ⟨by show 2 ≤ sizeLine; decide, [.int i tk, y], .cons ⟨_, rfl⟩ (.cons ru .nil), ⟨_, hT2, rfl, _, rfl⟩⟩
    have I1 : Inv X pins σ (upd H s.heap.objs.size (.tup [.int (i : Nat), x])) { s with heap := h'', toks := tk + 1 } :=
      I.turnedNew (ch := [e, it]) (fun b ob hb q => (sb.2 b (fun z => hb (by simp [z]))).trans (hk b ob (fun z => hb (by simp [z])) (fun z => hb (by simp [z])) q)) hf (Nat.le_refl _) new
    refine ⟨.ref s.heap.objs.size, _, I1, rfl, ⟨_, x, rfl, I.hok.fresh (Nat.le_refl _), rfl, fun ys hy => by rw [I.tuple_inj hy hq]; exact hx⟩, ⟨⟨y, ?_⟩, hst.1.at fun o q => (sb.2 it (Ne.symm hne)).trans q, hne, hea⟩, fun b hb => ?_⟩
    · have e1 : ((i + 1 : Nat) : Int) = (i : Int) + 1 := by omega
      rw [e1]; exact he'
    · have hb' : b < s.heap.objs.size := by
        have e' : b = e ∨ b = it := by simpa using hb
        rcases e' with z | z
        · rw [z]; exact hel
        · rw [z]; exact hil
      rw [upd_ne (Nat.ne_of_lt hb')]
      exact (hf b hb).1
  done := by
    intro X hP hw hK hc i pins s σ H E I hf st hg
    subst hP hw hK
    obtain ⟨⟨old, he⟩, hit, hne, hea⟩ := st
    obtain ⟨xs, hq, hx⟩ := hg
    obtain ⟨its, rv, p, hz⟩ := I.tuple hq
    obtain ⟨f0, f1, f2, f3, f4, f5⟩ := hf it (by simp)
    have hh : X.A.in1.handled = none := I.ok.hd hc
    have hit2 : s.heap.IsTupleIter it a i := hit
    have hlen : i = its.toArray.size := by rw [List.size_toArray, ← rv.length, hx]
    subst hlen
    exact wpAny_pyNext_enum_endD (Draws.tuple hh it a hai its.toArray) he ⟨hit2, p⟩ fun h' eb => ⟨rfl, I.turned (t' := s.toks) (fun b o hb q => eb b o hb q) f0 f1 f3 f4 f5⟩
  self := fun A i s Q E st h => let ⟨⟨_, he⟩, _⟩ := st; wpAny_pyIter_enum he h
/-! ### what is walked -/
section
variable {X : Cx} {W : WX} {fr fr2 fr3 : Bool} {tg e a b : Expr} {te : TE} {fa : E} {gl : EL} {pos p : Pos} {n : Nat}
def iSeqAll (K : PySem.W.Frag) (tl : TE) : TI := fun σ H R => tl σ H fun x H1 => (∃ a, x = .ref a ∧ (∃ xs, SqL K H1 a xs) ∧ R (Itl K a) H1) ∨ (∃ a, x = .ref a ∧ (∃ xs, SqT K H1 a xs) ∧ R (Itt K a) H1) ∨ ∃ z, x = .str z ∧ R (Its z) H1
theorem pi_seqAll (hl : PE X e te) : PI X tg e (iSeqAll X.K te) := by
  refine ⟨fun pins s σ H R I h => ?_⟩
  refine thn (hl.run pins s σ H _ I h) fun v s1 ⟨x, H1, I1, r1, q1⟩ => ?_
  rcases q1 with ⟨a, e, ⟨xs, hq⟩, q⟩ | ⟨a, e, ⟨xs, hq⟩, q⟩ | ⟨z, e, q⟩
  · subst e
    cases r1
    obtain ⟨its, rv, pl, hz⟩ := I1.list hq
    exact wpAny_pyIter_list pl.isList (pi_one (tk := s1.toks) I1 _ (turn_list a _) ⟨_, Heap.get?_push_size _ rfl, rfl, rfl⟩ q)
  · subst e
    cases r1
    obtain ⟨its, rv, pl, hz⟩ := I1.tuple hq
    exact wpAny_pyIter_tuple (show s1.heap.IsTuple a its.toArray from pl) (pi_one (tk := s1.toks) I1 _ (turn_tuple a _) ⟨_, Heap.get?_push_size _ rfl, rfl, rfl⟩ q)
  · subst e
    obtain ⟨t, rfl⟩ := r1
    cases ha : z.cps.all (· < 128)
    · exact wpAny_pyIter_wide ha (pi_one (tk := s1.toks) I1 _ (turn_str _ z t "str_iterator" (.inr rfl)) ⟨_, Heap.get?_push_size _ rfl, rfl, rfl⟩ q)
    · exact wpAny_pyIter_ascii ha (pi_one (tk := s1.toks) I1 _ (turn_str _ z t "str_ascii_iterator" (.inl rfl)) ⟨_, Heap.get?_push_size _ rfl, rfl, rfl⟩ q)
def signs (z : Str) : List D := z.cps.toList.map fun c => .str ⟨#[c]⟩
def seqOf : D → Option (List D)
  | .lst l => some l
  | .tup l => some l
  | .str z => if z.length ≤ 16777216 then some (signs z) else none
  | _ => none
def iSeq (fa : E) : EL := fun env s => (fa env s).bind fun d s1 => Res.of s1 (seqOf d)
theorem itOk_list {K : PySem.W.Frag} {mg : Str → Option Value} {m : WM} {H : Hp} {l : List D} {a : Addr} (r : RV K mg m H (.lst l) (.ref a)) : ItOk K mg m H (Itl K a) l := by
  obtain ⟨p, vs, e, h1, n1, n2, hz, r1⟩ := r.lst'
  cases e
  refine ⟨hz, fun i m2 H2 w => ?_⟩
  have hq : SqL K H2 a vs := SqL.of (w.lst a vs h1 n1 n2)
  have r2 := RVs.mono w _ _ r1
  refine ⟨fun d hd => ?_, fun e => ⟨vs, hq, by rw [r1.length, e]; exact Nat.le_refl _⟩⟩
  obtain ⟨v, hv, rv⟩ := r2.get hd
  refine ⟨⟨vs, v, hq, hv⟩, fun x H3 ⟨e3, hx⟩ => ?_⟩
  subst e3
  have := hx vs hq
  rw [hv] at this
  cases this
  exact ⟨Grw.refl, rv⟩
theorem itOk_tup {K : PySem.W.Frag} {mg : Str → Option Value} {m : WM} {H : Hp} {l : List D} {a : Addr} (r : RV K mg m H (.tup l) (.ref a)) : ItOk K mg m H (Itt K a) l := by
  obtain ⟨p, vs, e, h1, hz, r1⟩ := r.tup'
  cases e
  refine ⟨hz, fun i m2 H2 w => ?_⟩
  have hq : SqT K H2 a vs := SqT.of (w.tup a vs h1)
  have r2 := RVs.mono w _ _ r1
  refine ⟨fun d hd => ?_, fun e => ⟨vs, hq, by rw [r1.length, e]; exact Nat.le_refl _⟩⟩
  obtain ⟨v, hv, rv⟩ := r2.get hd
  refine ⟨⟨vs, v, hq, hv⟩, fun x H3 ⟨e3, hx⟩ => ?_⟩
  subst e3
  have := hx vs hq
  rw [hv] at this
  cases this
  exact ⟨Grw.refl, rv⟩
theorem itOk_str {K : PySem.W.Frag} {mg : Str → Option Value} {m : WM} {H : Hp} {z : Str} (hz : z.length ≤ 16777216) : ItOk K mg m H (Its z) (signs z) := by
  have hl : (signs z).length = z.cps.size := by unfold signs; rw [List.length_map, Array.length_toList]
  refine ⟨by rw [hl, size_lit]; exact hz, fun i m2 H2 w => ⟨fun d hd => ?_, fun e => by rw [e, hl]; exact Nat.le_refl _⟩⟩
  unfold signs at hd
  rw [List.getElem?_map, Array.getElem?_toList] at hd
  cases q : z.cps[i]? with
  | none => rw [q] at hd; cases hd
  | some c =>
    rw [q] at hd
    cases hd
    refine ⟨(Array.getElem?_eq_some_iff.mp q).1, fun x H3 ⟨e3, c', hc, ex⟩ => ?_⟩
    rw [q] at hc
    cases hc
    subst e3 ex
    exact ⟨Grw.refl, RV.str⟩
theorem si_seq (he : SE X W fr2 e fa) : SI X W tg e (iSeq fa) := PI.imp (pi_seqAll (seF he)) fun σ H R ⟨m, env, s, S, E, k⟩ => by
  refine ⟨m, env, s, S, E, (KontG.bind (R := RD X.K X.mg false H) k).imp fun x H1 ⟨dx, s1, m1, e1, A, k1⟩ => ?_⟩
  obtain ⟨ds, ed, k2⟩ := k1.of
  have fin : ∀ J, ItOk X.K X.mg m1 H1 J ds → R J H1 := fun J hJ => k2 J m1 H1 A.st A.ph A.sim hJ
  cases dx with
  | lst l =>
    cases ed
    obtain ⟨a, vs, e, h1, _⟩ := A.rel.1.lst'
    subst e
    exact .inl ⟨a, rfl, ⟨vs, SqL.of h1⟩, fin _ (itOk_list A.rel.1)⟩
  | tup l =>
    cases ed
    obtain ⟨a, vs, e, h1, _⟩ := A.rel.1.tup'
    subst e
    exact .inr (.inl ⟨a, rfl, ⟨vs, SqT.of h1⟩, fin _ (itOk_tup A.rel.1)⟩)
  | str z =>
    have ed' : (if z.length ≤ 16777216 then some (signs z) else none) = some ds := ed
    split at ed'
    · rename_i hz
      cases ed'
      exact .inr (.inr ⟨z, A.rel.1.str', fin _ (itOk_str hz)⟩)
    · cases ed'
  | _ => cases ed
/-! ranges -/
def rngD (lo : Int) (n : Nat) : List D := (List.range n).map fun (i : Nat) => .int (lo + i)
def gR1 : List D → Option (List D)
  | [.int j] => if -100000 ≤ j ∧ j ≤ 100000 then some (rngD 0 j.toNat) else none
  | _ => none
def gR2 : List D → Option (List D)
  | [.int i, .int j] => if -100000 ≤ i ∧ i ≤ 100000 ∧ -100000 ≤ j ∧ j ≤ 100000 then some (rngD i (j - i).toNat) else none
  | _ => none
def iOf (g : List D → Option (List D)) (gl : EL) : EL := fun env s => (gl env s).bind fun ds s1 => Res.of s1 (g ds)
theorem itOk_rng {K : PySem.W.Frag} {mg : Str → Option Value} {m : WM} {H : Hp} {lo : Int} {n : Nat} (hn : n ≤ 200000) : ItOk K mg m H (Itr lo n) (rngD lo n) := by
  have hl : (rngD lo n).length = n := by unfold rngD; rw [List.length_map, List.length_range]
  refine ⟨by rw [hl, size_lit]; omega, fun i m2 H2 w => ⟨fun d hd => ?_, fun e => by rw [e, hl]; exact Nat.le_refl _⟩⟩
  unfold rngD at hd
  rw [List.getElem?_map] at hd
  cases q : (List.range n)[i]? with
  | none => rw [q] at hd; cases hd
  | some c =>
    rw [q] at hd
    cases hd
    have hc : i < n ∧ c = i := by
      obtain ⟨h1, h2⟩ := List.getElem?_eq_some_iff.mp q
      rw [List.length_range] at h1
      rw [List.getElem_range] at h2
      exact ⟨h1, h2.symm⟩
    refine ⟨hc.1, fun x H3 ⟨e3, ex⟩ => ?_⟩
    subst e3 ex
    rw [hc.2]
    exact ⟨Grw.refl, RV.int⟩
theorem si_range1 (hg : Gl X "range") (hm : X.mg "range" = none) (ha : SA X W 1 [a] gl) (hs : starEach [a] X.env = [(false, eval a X.env)] := by rfl) : SI X W tg (.Call (.Name "range" p) [a] [] pos) (iOf gR1 gl) := PI.imp (pi_range1 hg hm ha hs) fun σ H R ⟨m, env, s, S, E, k⟩ => by
  refine ⟨m, env, s, S, E, (KontG.bind k).imp fun xs H1 ⟨dxs, s1, m1, e1, A, k1⟩ => ?_⟩
  obtain ⟨ds, ed, k2⟩ := k1.of
  unfold gR1 at ed
  split at ed
  · rename_i j
    split at ed
    · rename_i h
      cases ed
      obtain ⟨v, ev, r1⟩ := one A.rel.1
      exact ⟨j, by rw [ev, r1.int'], by omega, by omega, k2 _ m1 H1 A.st A.ph A.sim (itOk_rng (by omega))⟩
    · cases ed
  · cases ed
theorem si_range2 (hg : Gl X "range") (hm : X.mg "range" = none) (ha : SA X W 2 [a, b] gl) (hs : starEach [a, b] X.env = [(false, eval a X.env), (false, eval b X.env)] := by rfl) (hs2 : starEach [b] X.env = [(false, eval b X.env)] := by rfl) :
    SI X W tg (.Call (.Name "range" p) [a, b] [] pos) (iOf gR2 gl) := PI.imp (pi_range2 hg hm ha hs hs2) fun σ H R ⟨m, env, s, S, E, k⟩ => by
  refine ⟨m, env, s, S, E, (KontG.bind k).imp fun xs H1 ⟨dxs, s1, m1, e1, A, k1⟩ => ?_⟩
  obtain ⟨ds, ed, k2⟩ := k1.of
  unfold gR2 at ed
  split at ed
  · rename_i i j
    split at ed
    · rename_i h
      cases ed
      obtain ⟨v, w, ev, r1, r2⟩ := two A.rel.1
      exact ⟨i, j, by rw [ev, r1.int', r2.int'], by omega, k2 _ m1 H1 A.st A.ph A.sim (itOk_rng (by omega))⟩
    · cases ed
  · cases ed
/-! enumerate, zip -/
def enumD : Nat → List D → List D
  | _, [] => []
  | k, d :: l => .tup [.int k, d] :: enumD (k + 1) l
def zipD : List D → List D → List D
  | d :: l, e :: r => .tup [d, e] :: zipD l r
  | _, _ => []
theorem enumD_get : ∀ (l : List D) (k i : Nat), (enumD k l)[i]? = (l[i]?).map fun d => .tup [.int ((k + i : Nat) : Int), d]
  | [], k, i => by simp [enumD]
  | d :: l, k, 0 => by simp [enumD]
  | d :: l, k, i + 1 => by
    rw [enumD, List.getElem?_cons_succ, List.getElem?_cons_succ, enumD_get l (k + 1) i]
    rw [show k + 1 + i = k + (i + 1) by omega]
theorem zipD_get : ∀ (l r : List D) (i : Nat), (zipD l r)[i]? = match l[i]?, r[i]? with
    | some d, some e => some (.tup [d, e])
    | _, _ => none
  | [], r, i => by simp [zipD]
  | d :: l, [], i => by cases h : (d :: l)[i]? <;> simp [zipD]
  | d :: l, e :: r, 0 => by simp [zipD]
  | d :: l, e :: r, i + 1 => by
    rw [zipD, List.getElem?_cons_succ, List.getElem?_cons_succ, List.getElem?_cons_succ, zipD_get l r i]
theorem enumD_len : ∀ (l : List D) (k : Nat), (enumD k l).length = l.length
  | [], _ => rfl
  | d :: l, k => by rw [enumD, List.length_cons, List.length_cons, enumD_len l]
theorem zipD_len : ∀ (l r : List D), (zipD l r).length = min l.length r.length
  | [], r => by simp [zipD]
  | d :: l, [] => by simp [zipD]
  | d :: l, e :: r => by rw [zipD, List.length_cons, List.length_cons, List.length_cons, zipD_len l r]; omega
def gEnum : List D → Option (List D)
  | [.lst l] => some (enumD 0 l)
  | [.tup l] => some (enumD 0 l)
  | _ => none
def gZip : List D → Option (List D)
  | [.lst l, .lst r] => some (zipD l r)
  | [.tup l, .tup r] => some (zipD l r)
  | _ => none
def iEnumA (K : PySem.W.Frag) (ta : TA) : TI := fun σ H R => ta σ H fun vs H1 => ∃ a xs, vs = [.ref a] ∧ ((SqL K H1 a xs ∧ R (Ite K a) H1) ∨ (SqT K H1 a xs ∧ R (IteT K a) H1))
theorem pi_enumA {ta : TA} {tpos : Pos} {elts : List Expr} {kk : Nat} (hg : Gl X "enumerate") (hm : X.mg "enumerate" = none) (ha : PA X [e] ta) (hs : starEach [e] X.env = [(false, eval e X.env)] := by rfl) :
    PI X (.Tuple elts kk tpos) (.Call (.Name "enumerate" p) [e] [] pos) (iEnumA X.K ta) := by
  refine ⟨fun pins s σ H R I h => ?_⟩
  refine PyProof.Rows.Call_ (ld_blt I hg hm PyProof.Rows.boot_enumerate (PyProof.Rows.callWith_type1 (thn (ha.run pos pins s σ H _ I h) fun us s1 ⟨vs, H1, I1, r1, q1⟩ => ?_) hs rfl))
  obtain ⟨a, xs, ex, q1⟩ := q1
  subst ex
  cases r1 with
  | cons r rr =>
    cases rr
    cases r
    have fresh : ∀ b, b ∈ [s1.heap.objs.size + 1, s1.heap.objs.size] → FpOk X pins H1 b := fun b hb => by
      have e' : b = s1.heap.objs.size + 1 ∨ b = s1.heap.objs.size := by simpa using hb
      have hle : s1.heap.objs.size ≤ b := by
        rcases e' with z | z
        · rw [z]; exact Nat.le_add_right _ _
        · rw [z]; exact Nat.le_refl _
      exact I1.fpOk hle (I1.hok.fresh hle)
    rcases q1 with ⟨hq, q⟩ | ⟨hq, q⟩
    · obtain ⟨its, rv, p', hz⟩ := I1.list hq
      refine call_enumerate_list p'.isList fun h' he hit hsz hk => wpAny_pyIter_enum he ?_
      have I2 : Inv X pins σ H1 { s1 with heap := h' } := I1.kept (t' := s1.toks) hk
      exact ⟨s1.heap.objs.size + 1, [s1.heap.objs.size + 1, s1.heap.objs.size], _, _, H1, rfl, I2, turn_enum a (s1.heap.objs.size + 1) s1.heap.objs.size, ⟨⟨.none, he⟩, hit, Nat.succ_ne_self _⟩, fresh, q⟩
    · obtain ⟨its, rv, p', hz⟩ := I1.tuple hq
      have hlt : a < s1.heap.objs.size := by obtain ⟨o, ho, _⟩ := p'; exact Heap.lt_size ho
      refine G_call_enumT (show s1.heap.IsTuple a its.toArray from p') fun h' he hit hsz hk => wpAny_pyIter_enum he ?_
      have I2 : Inv X pins σ H1 { s1 with heap := h' } := I1.kept (t' := s1.toks) hk
      exact ⟨s1.heap.objs.size + 1, [s1.heap.objs.size + 1, s1.heap.objs.size], _, _, H1, rfl, I2, turn_enumT a (s1.heap.objs.size + 1) s1.heap.objs.size (Nat.ne_of_lt hlt), ⟨⟨.none, he⟩, hit, Nat.succ_ne_self _, Nat.ne_of_gt (Nat.lt_succ_of_lt hlt)⟩, fresh, q⟩
theorem RVs.two {K : PySem.W.Frag} {mg : Str → Option Value} {m : WM} {H : Hp} {d e : D} {v w : V} (r1 : RV K mg m H d v) (r2 : RV K mg m H e w) : RVs K mg m H [d, e] [v, w] := RVs.mk r1 (RVs.mk r2 (RVs.nil.mpr rfl))
theorem si_enum {tpos : Pos} {elts : List Expr} {kk : Nat} (hg : Gl X "enumerate") (hm : X.mg "enumerate" = none) (ha : SA X W 1 [e] gl) (hs : starEach [e] X.env = [(false, eval e X.env)] := by rfl) :
    SI X W (.Tuple elts kk tpos) (.Call (.Name "enumerate" p) [e] [] pos) (iOf gEnum gl) := PI.imp (pi_enumA hg hm ha hs) fun σ H R ⟨m, env, s, S, E, k⟩ => by
  refine ⟨m, env, s, S, E, (KontG.bind k).imp fun xs H1 ⟨dxs, s1, m1, e1, A, k1⟩ => ?_⟩
  obtain ⟨ds, ed, k2⟩ := k1.of
  unfold gEnum at ed
  split at ed
  · rename_i l
    cases ed
    obtain ⟨v, ev, r1⟩ := one A.rel.1
    obtain ⟨a, vs, ea, h1, n1, n2, hz, r2⟩ := r1.lst'
    refine ⟨a, vs, by rw [ev, ea], .inl ⟨SqL.of h1, k2 _ m1 H1 A.st A.ph A.sim ⟨by rw [enumD_len]; exact hz, fun i m2 H2 w => ?_⟩⟩⟩
    have hq : SqL X.K H2 a vs := SqL.of (w.lst a vs h1 n1 n2)
    have r3 := RVs.mono w _ _ r2
    refine ⟨fun d hd => ?_, fun e => ⟨vs, hq, by rw [r2.length, e, enumD_len]; exact Nat.le_refl _⟩⟩
    rw [enumD_get] at hd
    cases q : l[i]? with
    | none => rw [q] at hd; cases hd
    | some d' =>
      rw [q] at hd
      cases hd
      obtain ⟨v', hv, rv⟩ := r3.get q
      refine ⟨⟨vs, v', hq, hv⟩, fun x H3 ⟨T, x', ex, hT, e3, hx⟩ => ?_⟩
      have := hx vs hq
      rw [hv] at this
      cases this
      subst e3 ex
      have e0 : ((0 + i : Nat) : Int) = (i : Int) := by omega
      rw [e0]
      exact ⟨Grw.new hT, RV.newT (RVs.two RV.int rv) hT (by show 2 ≤ sizeLine; decide)⟩
  · rename_i l
    cases ed
    obtain ⟨v, ev, r1⟩ := one A.rel.1
    obtain ⟨a, vs, ea, h1, hz, r2⟩ := r1.tup'
    refine ⟨a, vs, by rw [ev, ea], .inr ⟨SqT.of h1, k2 _ m1 H1 A.st A.ph A.sim ⟨by rw [enumD_len]; exact hz, fun i m2 H2 w => ?_⟩⟩⟩
    have hq : SqT X.K H2 a vs := SqT.of (w.tup a vs h1)
    have r3 := RVs.mono w _ _ r2
    refine ⟨fun d hd => ?_, fun e => ⟨vs, hq, by rw [r2.length, e, enumD_len]⟩⟩
    rw [enumD_get] at hd
    cases q : l[i]? with
    | none => rw [q] at hd; cases hd
    | some d' =>
      rw [q] at hd
      cases hd
      obtain ⟨v', hv, rv⟩ := r3.get q
      refine ⟨⟨vs, v', hq, hv⟩, fun x H3 ⟨T, x', ex, hT, e3, hx⟩ => ?_⟩
      have := hx vs hq
      rw [hv] at this
      cases this
      subst e3 ex
      have e0 : ((0 + i : Nat) : Int) = (i : Int) := by omega
      rw [e0]
      exact ⟨Grw.new hT, RV.newT (RVs.two RV.int rv) hT (by show 2 ≤ sizeLine; decide)⟩
  · cases ed
theorem si_zip {tpos : Pos} {elts : List Expr} {kk : Nat} (hg : Gl X "zip") (hm : X.mg "zip" = none) (ha : SA X W 2 [a, b] gl)
    (hs : starEach [a, b] X.env = (false, eval a X.env) :: starEach [b] X.env := by rfl) (hpl : (backTo pos (starEach [b] X.env)).any (·.1) = false := by rfl) :
    SI X W (.Tuple elts kk tpos) (.Call (.Name "zip" p) [a, b] [] pos) (iOf gZip gl) := PI.imp (RZ.pi_zipA hg hm ha hs hpl) fun σ H R ⟨m, env, s, S, E, k⟩ => by
  refine ⟨m, env, s, S, E, (KontG.bind k).imp fun xs H1 ⟨dxs, s1, m1, e1, A, k1⟩ => ?_⟩
  obtain ⟨ds, ed, k2⟩ := k1.of
  unfold gZip at ed
  split at ed
  · rename_i l r
    cases ed
    obtain ⟨v, w, ev, r1, r2⟩ := two A.rel.1
    obtain ⟨p1, vs, ea, h1, n1, n2, hz, q1⟩ := r1.lst'
    obtain ⟨p2, ws, eb, h2, n3, n4, hz2, q2⟩ := r2.lst'
    refine ⟨p1, p2, vs, ws, by rw [ev, ea, eb], .inl ⟨SqL.of h1, SqL.of h2, k2 _ m1 H1 A.st A.ph A.sim ⟨by rw [zipD_len]; omega, fun i m2 H2 w => ?_⟩⟩⟩
    have hq : SqL X.K H2 p1 vs := SqL.of (w.lst p1 vs h1 n1 n2)
    have hq2 : SqL X.K H2 p2 ws := SqL.of (w.lst p2 ws h2 n3 n4)
    have t1 := RVs.mono w _ _ q1
    have t2 := RVs.mono w _ _ q2
    refine ⟨fun d hd => ?_, fun e => ⟨vs, ws, hq, hq2, by rw [q1.length, q2.length, e, zipD_len]; omega⟩⟩
    rw [zipD_get] at hd
    cases c1 : l[i]? with
    | none => rw [c1] at hd; cases hd
    | some d1 =>
      cases c2 : r[i]? with
      | none => rw [c1, c2] at hd; cases hd
      | some d2 =>
        rw [c1, c2] at hd
        cases hd
        obtain ⟨v1, hv1, rv1⟩ := t1.get c1
        obtain ⟨v2, hv2, rv2⟩ := t2.get c2
        refine ⟨⟨vs, ws, v1, v2, hq, hq2, hv1, hv2⟩, fun x H3 ⟨T, x1, x2, ex, hT, e3, hx1, hx2⟩ => ?_⟩
        have u1 := hx1 vs hq
        have u2 := hx2 ws hq2
        rw [hv1] at u1
        rw [hv2] at u2
        cases u1
        cases u2
        subst e3 ex
        exact ⟨Grw.new hT, RV.newT (RVs.two rv1 rv2) hT (by show 2 ≤ sizeLine; decide)⟩
  · rename_i l r
    cases ed
    obtain ⟨v, w, ev, r1, r2⟩ := two A.rel.1
    obtain ⟨p1, vs, ea, h1, hz, q1⟩ := r1.tup'
    obtain ⟨p2, ws, eb, h2, hz2, q2⟩ := r2.tup'
    refine ⟨p1, p2, vs, ws, by rw [ev, ea, eb], .inr ⟨SqT.of h1, SqT.of h2, k2 _ m1 H1 A.st A.ph A.sim ⟨by rw [zipD_len]; omega, fun i m2 H2 w => ?_⟩⟩⟩
    have hq : SqT X.K H2 p1 vs := SqT.of (w.tup p1 vs h1)
    have hq2 : SqT X.K H2 p2 ws := SqT.of (w.tup p2 ws h2)
    have t1 := RVs.mono w _ _ q1
    have t2 := RVs.mono w _ _ q2
    refine ⟨fun d hd => ?_, fun e => ⟨vs, ws, hq, hq2, by rw [q1.length, q2.length, e, zipD_len]; omega⟩⟩
    rw [zipD_get] at hd
    cases c1 : l[i]? with
    | none => rw [c1] at hd; cases hd
    | some d1 =>
      cases c2 : r[i]? with
      | none => rw [c1, c2] at hd; cases hd
      | some d2 =>
        rw [c1, c2] at hd
        cases hd
        obtain ⟨v1, hv1, rv1⟩ := t1.get c1
        obtain ⟨v2, hv2, rv2⟩ := t2.get c2
        refine ⟨⟨vs, ws, v1, v2, hq, hq2, hv1, hv2⟩, fun x H3 ⟨T, x1, x2, ex, hT, e3, hx1, hx2⟩ => ?_⟩
        have u1 := hx1 vs hq
        have u2 := hx2 ws hq2
        rw [hv1] at u1
        rw [hv2] at u2
        cases u1
        cases u2
        subst e3 ex
        exact ⟨Grw.new hT, RV.newT (RVs.two rv1 rv2) hT (by show 2 ≤ sizeLine; decide)⟩
  · cases ed
end
end G

end
section
namespace G
open PySem PySem.Spec L2
open PyProof.Rows (envOfC)
variable [Tb]
/-! ### more statements -/
section
variable {X : Cx} {W : WX} {fr cf fr2 fr3 fr4 : Bool} {e a b c tg iter elt : Expr} {es : List Expr} {fa fb fc : E} {gi gl : EL} {p : Pat} {pos spos : Pos} {n : Nat} {st : Stmt}
theorem ss_set_of {te : TE} {i : Nat} (h : PS X st (tAsg te (gName i))) (im : ∀ σ H Q, tE X.K X.mg W fr2 fa σ H Q → te σ H Q) : SS X W fr cf st (sSet i fa) := PS.imp h fun D σ H ⟨m, env, s, S, E, k⟩ => by
  refine im σ H _ ⟨m, env, s, S, E, (KontS.st k E).imp fun x H1 ⟨d, s1, m1, e1, A, E1, k1⟩ => ?_⟩
  exact k1.nx A.sim (E1.set i A.rel.1)
theorem ss_cel_of {te : TE} {i : Nat} (h : PS X st (tAsg te (gName i))) (im : ∀ σ H Q, tE X.K X.mg W true fa σ H Q → te σ H Q) : SS X W fr true st (sCel i fa) := PS.imp h fun D σ H ⟨m, env, s, S, E, k⟩ => by
  refine im σ H _ ⟨m, env, s, S, E, (KontS.st k E).imp fun x H1 ⟨d, s1, m1, e1, A, E1, k1⟩ => ?_⟩
  cases d with
  | lst l =>
    simp only at k1
    split at k1
    · rename_i hp
      obtain ⟨a, vs, ex, h1, n1, n2, hz, r1⟩ := A.rel.1.lst'
      subst ex
      obtain ⟨hn, S2, vs2, h2, r2⟩ := A.rel.2 rfl l a rfl rfl
      rw [h1] at h2
      cases h2
      obtain ⟨S3, st3⟩ := A.sim.newCel S2 h1 hp hz r1 n2 A.st hn ⟨[], by rw [A.ph]; simp, by simp⟩ r2
      have k3 : KontS X.K X.mg W fr true m H ((fa env s).st env fun d s1 => match d with | .lst l => if pureL l = true then .ok .nx (env.set i (some (.cel s1.cel.length))) (newCel s1 l) else .bad | _ => .bad) D := k
      rw [e1] at k3
      simp only [Res.st_ok, if_pos hp] at k3
      refine k3 _ _ H1 st3 (fun z => nomatch z) S3 ((E.mono st3.wk).set i ?_)
      unfold RV
      refine ⟨a, rfl, ?_⟩
      show (m1.phi ++ [a])[s1.cel.length]? = some a
      rw [← A.sim.cl, List.getElem?_append_right (Nat.le_refl _), Nat.sub_self]
      rfl
    · exact k1.elim
  | _ => exact k1.elim
theorem ss_setLc {i : Nat} {y : Str} {py : Pos} {ifs : List Expr} {scope : Scope} {own : List (Str × Nat)} {gt : EB} (hc : X.calm = true) (hN : X.N.Nodup) (hy : X.N[i]? = some y) (hyl : X.env.scope.names.lookup y = some .local)
    (hsw : swapsWith (.ListComp elt [⟨tg, iter, ifs, 0⟩] scope pos) (some (.Name y py)) spos.line X.env = pure true) (hi : SI X W tg iter gi) (ok : BlkOk X.N X.env.scope scope own)
    (hg : ∀ (s : Shared) (H : Hp) (C : Addr) (cl : List (Str × Addr)) (fp : List Addr), SG (X.blk s H scope (compEnvC scope cl C X.env) fp) tg p) (ht : ∀ (s : Shared) (H : Hp) (C : Addr) (cl : List (Str × Addr)) (fp : List Addr), PTs (X.blk s H scope (compEnvC scope cl C X.env) fp) ifs (tT X.K X.mg W0 gt))
    (he : ∀ (s : Shared) (H : Hp) (C : Addr) (cl : List (Str × Addr)) (fp : List Addr), SE (X.blk s H scope (compEnvC scope cl C X.env) fp) W0 fr2 elt fa) (hp : ∀ i ∈ p.slots, i ∈ own.map (·.2) := by decide) (hs : ∀ x, foldedSetIterable iter X.env x = pure x := by intro _; rfl) :
    SS X W fr cf (.Assign [.Name y py] (.ListComp elt [⟨tg, iter, ifs, 0⟩] scope pos) spos) (sSet i (eLc (own.map (·.2)) p gi gt fa)) :=
  ss_set_of (fr2 := true) (ps_setLc (g := tG X.K X.mg p) (te := tE X.K X.mg W0 false fa) hc hN hy hyl hsw hi ok hg ht (fun s H C cl fp => seF (X := X.blk s H scope (compEnvC scope cl C X.env) fp) (he s H C cl fp)) hs) (lc_imp hp)
theorem ss_celLc {i : Nat} {y : Str} {py : Pos} {ifs : List Expr} {scope : Scope} {own : List (Str × Nat)} {gt : EB} (hc : X.calm = true) (hN : X.N.Nodup) (hy : X.N[i]? = some y) (hyl : X.env.scope.names.lookup y = some .local)
    (hsw : swapsWith (.ListComp elt [⟨tg, iter, ifs, 0⟩] scope pos) (some (.Name y py)) spos.line X.env = pure true) (hi : SI X W tg iter gi) (ok : BlkOk X.N X.env.scope scope own)
    (hg : ∀ (s : Shared) (H : Hp) (C : Addr) (cl : List (Str × Addr)) (fp : List Addr), SG (X.blk s H scope (compEnvC scope cl C X.env) fp) tg p) (ht : ∀ (s : Shared) (H : Hp) (C : Addr) (cl : List (Str × Addr)) (fp : List Addr), PTs (X.blk s H scope (compEnvC scope cl C X.env) fp) ifs (tT X.K X.mg W0 gt))
    (he : ∀ (s : Shared) (H : Hp) (C : Addr) (cl : List (Str × Addr)) (fp : List Addr), SE (X.blk s H scope (compEnvC scope cl C X.env) fp) W0 fr2 elt fa) (hp : ∀ i ∈ p.slots, i ∈ own.map (·.2) := by decide) (hs : ∀ x, foldedSetIterable iter X.env x = pure x := by intro _; rfl) :
    SS X W fr true (.Assign [.Name y py] (.ListComp elt [⟨tg, iter, ifs, 0⟩] scope pos) spos) (sCel i (eLc (own.map (·.2)) p gi gt fa)) :=
  ss_cel_of (ps_setLc (g := tG X.K X.mg p) (te := tE X.K X.mg W0 false fa) hc hN hy hyl hsw hi ok hg ht (fun s H C cl fp => seF (X := X.blk s H scope (compEnvC scope cl C X.env) fp) (he s H C cl fp)) hs) (lc_imp hp)
/-! several names at once -/
/-- the parts of a, b = .., .., some of which become changeable lists: each is made as it comes -/
def pNil : EL := fun _ s => .ok [] s
def pCons (f : E) (r : EL) : EL := lCons f r
def pCel (f : E) (r : EL) : EL := fun env s => (f env s).bind fun d s1 => match d with
  | .lst l => if pureL l = true then (r env (newCel s1 l)).bind fun ds s2 => .ok (.cel s1.cel.length :: ds) s2 else .bad
  | _ => .bad
def setsE : List Nat → List D → Env → Env
  | i :: is, d :: ds, env => setsE is ds (env.set i (some d))
  | _, _, env => env
def sPar (is : List Nat) (g : EL) : SM := fun env s => (g env s).st env fun ds s1 => .ok .nx (setsE is ds env) s1
/-- as KontG, but changeable lists may be made -/
def KontP (K : PySem.W.Frag) (mg : Str → Option Value) (W : XK) (n : Nat) (m : WM) (H : Hp) (r : Res (List D)) (Q : List V → Hp → Prop) : Prop := match r with
  | .ok ds s' => ∀ vs m' H', Stp m H m' H' → Sim K mg m' s' H' → RVs K mg m' H' ds vs → ds.length = n → Q vs H'
  | .err x s' => ∀ c dx m' H', Stp m H m' H' → Sim K mg m' s' H' → ExR mg H' x c dx → W c dx H'
  | .bad => False
def tP (K : PySem.W.Frag) (mg : Str → Option Value) (W : WX) (n : Nat) (g : EL) : TA := fun σ H Q => ∃ m env s, Sim K mg m s H ∧ EnvR K mg m H env σ ∧ KontP K mg (fun c d H' => W c d σ H') n m H (g env s) Q
abbrev SPA (X : Cx) (W : WX) (n : Nat) (es : List Expr) (g : EL) : Prop := PA X es (tP X.K X.mg W n g)
theorem sp_nil : SPA X W 0 [] pNil := PA.imp pa_nil fun σ H Q ⟨m, env, s, S, E, k⟩ => k [] m H Stp.refl S (RVs.nil.mpr rfl) rfl
theorem sp_cons (ha : SE X W fr2 e fa) (hr : SPA X W n es gl) (hs : starEach (e :: es) X.env = (false, eval e X.env) :: starEach es X.env := by rfl) : SPA X W (n + 1) (e :: es) (pCons fa gl) := PA.imp (pa_cons (seF ha) hr hs) fun σ H Q ⟨m, env, s, S, E, k⟩ => by
  refine ⟨m, env, s, S, E, ?_⟩
  have k' : KontP X.K X.mg (fun c d H' => W c d σ H') (n + 1) m H ((fa env s).bind fun x s1 => (gl env s1).bind fun xs s2 => .ok (x :: xs) s2) Q := k
  revert k'
  cases fa env s with
  | bad => exact fun k => k
  | err x s1 => exact fun k c dx m' H' x1 x2 x3 x4 => k c dx m' H' x1 x3 x4
  | ok d s1 =>
    intro k v m1 H1 x1 x2 x3 x4
    refine ⟨m1, env, s1, x3, E.mono x1.wk, ?_⟩
    revert k
    simp only [Res.bind_ok]
    cases gl env s1 with
    | bad => exact fun k => k
    | err x s2 => exact fun k c dx m' H' y1 y2 y3 => k c dx m' H' (x1.trans y1) y2 y3
    | ok ds s2 => exact fun k vs m' H' y1 y2 y3 y4 => k (v :: vs) m' H' (x1.trans y1) y2 (RVs.mk (RV.mono y1.wk _ _ x4.1) y3) (by rw [List.length_cons, y4])
theorem sp_cel (ha : SE X W true e fa) (hr : SPA X W n es gl) (hs : starEach (e :: es) X.env = (false, eval e X.env) :: starEach es X.env := by rfl) : SPA X W (n + 1) (e :: es) (pCel fa gl) := PA.imp (pa_cons ha hr hs) fun σ H Q ⟨m, env, s, S, E, k⟩ => by
  refine ⟨m, env, s, S, E, ?_⟩
  have k' : KontP X.K X.mg (fun c d H' => W c d σ H') (n + 1) m H ((fa env s).bind fun d s1 => match d with
    | .lst l => if pureL l = true then (gl env (newCel s1 l)).bind fun ds s2 => .ok (.cel s1.cel.length :: ds) s2 else .bad
    | _ => .bad) Q := k
  revert k'
  cases fa env s with
  | bad => exact fun k => k
  | err x s1 => exact fun k c dx m' H' x1 x2 x3 x4 => k c dx m' H' x1 x3 x4
  | ok d s1 =>
    intro k v m1 H1 x1 x2 x3 x4
    simp only [Res.bind_ok] at k
    cases d with
    | lst l =>
      simp only at k
      split at k
      · rename_i hp
        obtain ⟨a, vs, ex, h1, n1, n2, hz, r1⟩ := x4.1.lst'
        subst ex
        obtain ⟨hn, S2, vs2, h2, r2⟩ := x4.2 rfl l a rfl rfl
        rw [h1] at h2
        cases h2
        obtain ⟨S3, st3⟩ := x3.newCel S2 h1 hp hz r1 n2 x1 hn ⟨[], by rw [x2]; simp, by simp⟩ r2
        refine ⟨_, env, newCel s1 l, S3, E.mono st3.wk, ?_⟩
        have rc : RV X.K X.mg { m1 with phi := m1.phi ++ [a] } H1 (.cel s1.cel.length) (.ref a) := by
          unfold RV
          refine ⟨a, rfl, ?_⟩
          show (m1.phi ++ [a])[s1.cel.length]? = some a
          rw [← x3.cl, List.getElem?_append_right (Nat.le_refl _), Nat.sub_self]
          rfl
        revert k
        cases gl env (newCel s1 l) with
        | bad => exact fun k => k
        | err x s2 => exact fun k c dx m' H' y1 y2 y3 => k c dx m' H' (st3.trans y1) y2 y3
        | ok ds s2 => exact fun k vs m' H' y1 y2 y3 y4 => k (.ref a :: vs) m' H' (st3.trans y1) y2 (RVs.mk (RV.mono y1.wk _ _ rc) y3) (by rw [List.length_cons, y4])
      · exact k.elim
    | _ => exact k.elim
theorem par_fin {K : PySem.W.Frag} {mg : Str → Option Value} {σ : L2.St} {H : Hp} {D : Ends} {is : List Nat} (h : tS K mg W fr true (sPar is gl) D σ H) : tP K mg W n gl σ H fun vs H1 => ∃ m1 env ds s1, Sim K mg m1 s1 H1 ∧ EnvR K mg m1 H1 env σ ∧ RVs K mg m1 H1 ds vs ∧ ds.length = n ∧ KontS K mg W fr true m1 H1 (.ok .nx (setsE is ds env) s1) D := by
  obtain ⟨m, env, s, S, E, k⟩ := h
  refine ⟨m, env, s, S, E, ?_⟩
  have k' : KontS K mg W fr true m H ((gl env s).st env fun ds s1 => .ok .nx (setsE is ds env) s1) D := k
  revert k'
  cases gl env s with
  | bad => exact fun k => k
  | err x s1 => exact fun k c dx m' H' x1 x2 x3 => k c dx m' σ H' x1 (fun z => nomatch z) x2 (E.mono x1.wk) x3
  | ok ds s1 => exact fun k vs m' H' x1 x2 x3 x4 => ⟨m', env, ds, s1, x2, E.mono x1.wk, x3, x4, KontS.move k x1 fun z => nomatch z⟩
theorem ss_par {i j : Nat} {x y : Str} {px py pt : Pos} {kt k2 pt2} (hc : X.calm = true) (hN : X.N.Nodup) (hi : X.N[i]? = some x) (hj : X.N[j]? = some y) (hij : i ≠ j)
    (hx : X.env.scope.names.lookup x = some .local) (hy : X.env.scope.names.lookup y = some .local) (ha : SPA X W 2 [a, b] gl)
    (hw : swappedStores [.Tuple [.Name x px, .Name y py] kt pt] (.Tuple [a, b] k2 pt2) X.env = pure (some [x, y]))
    (hs : swapsWithSole [.Tuple [.Name x px, .Name y py] kt pt] (.Tuple [a, b] k2 pt2) pos.line X.env = pure false := by rfl) : SS X W fr true (.Assign [.Tuple [.Name x px, .Name y py] kt pt] (.Tuple [a, b] k2 pt2) pos) (sPar [i, j] gl) :=
  PS.imp (ps_par hc hN hi hj hij hx hy ha hw hs) fun D σ H h => by
    obtain ⟨m, env, s, S, E, k⟩ := par_fin (n := 2) h
    refine ⟨m, env, s, S, E, ?_⟩
    revert k
    cases gl env s with
    | bad => exact fun k => k
    | err x s1 => exact fun k => k
    | ok ds s1 =>
      intro k vs m' H' x1 x2 x3 x4
      obtain ⟨m1, env1, ds1, s2, S1, E1, r1, l1, k1⟩ := k vs m' H' x1 x2 x3 x4
      match ds1, l1 with
      | [d1, d2], _ =>
        obtain ⟨v, w, ev, q1, q2⟩ := two r1
        exact ⟨v, w, ev, k1.nx S1 ((E1.set i q1).set j q2)⟩
theorem ss_par3 {i j l : Nat} {x y z : Str} {px py pz pt : Pos} {kt k2 pt2} (hc : X.calm = true) (hN : X.N.Nodup) (hi : X.N[i]? = some x) (hj : X.N[j]? = some y) (hl : X.N[l]? = some z) (hij : i ≠ j) (hil : i ≠ l) (hjl : j ≠ l)
    (hx : X.env.scope.names.lookup x = some .local) (hy : X.env.scope.names.lookup y = some .local) (hz : X.env.scope.names.lookup z = some .local) (ha : SPA X W 3 [a, b, c] gl)
    (hw : swappedStores [.Tuple [.Name x px, .Name y py, .Name z pz] kt pt] (.Tuple [a, b, c] k2 pt2) X.env = pure (some [x, y, z]))
    (hs : swapsWithSole [.Tuple [.Name x px, .Name y py, .Name z pz] kt pt] (.Tuple [a, b, c] k2 pt2) pos.line X.env = pure false := by rfl) : SS X W fr true (.Assign [.Tuple [.Name x px, .Name y py, .Name z pz] kt pt] (.Tuple [a, b, c] k2 pt2) pos) (sPar [i, j, l] gl) :=
  PS.imp (ps_par3 hc hN hi hj hl hij hil hjl hx hy hz ha hw hs) fun D σ H h => by
    obtain ⟨m, env, s, S, E, k⟩ := par_fin (n := 3) h
    refine ⟨m, env, s, S, E, ?_⟩
    revert k
    cases gl env s with
    | bad => exact fun k => k
    | err x s1 => exact fun k => k
    | ok ds s1 =>
      intro k vs m' H' x1 x2 x3 x4
      obtain ⟨m1, env1, ds1, s2, S1, E1, r1, l1, k1⟩ := k vs m' H' x1 x2 x3 x4
      match ds1, l1 with
      | [d1, d2, d3], _ =>
        obtain ⟨v, r2, ev, q1, q2⟩ := RVs.cons.mp r1
        obtain ⟨w, u, ew, q3, q4⟩ := two q2
        exact ⟨v, w, u, by rw [ev, ew], k1.nx S1 (((E1.set i q1).set j q3).set l q4)⟩
/-! raise X('..') -/
def sRaise (x : Str) : SM := fun env s => .err { cls := x } env s
theorem ss_raise {x m : Str} {j : Nat} {p p2 pos' : Pos} {C : Addr} (hc : X.calm = true) (tk : Takes X W) (gC : X.mg x = some (.ref C)) (q : PySem.W.excIn X.K C He.veBase "ValueError.__new__" = true ∧ PySem.W.keepIn X.K (.ref C) = true ∧ PySem.W.subIn X.K (.ref C) (.type "BaseException") = some true ∧ PySem.W.typeIn X.K (.ref C) = some (.type "type")) (hg : Gl X x)
    (hdb : (x == ("__debug__" : Str)) = false := by decide) : SS X W fr cf (.Raise (some (.Call (.Name x p) [.Constant (.str m) j p2] [] pos)) none pos') (sRaise x) :=
  PS.imp (ps_raise hc tk (pmk_own PySem.F.excBase_ValueError q.1 gC q.2.1 (raises_own q.2.2.1 q.2.2.2) hg hdb)) fun D σ H ⟨m, env, s, S, E, k⟩ => k (.ref C) none m σ H Stp.refl (fun _ => rfl) S E ⟨⟨C, rfl, gC⟩, trivial⟩
end
/-! ### a def by its parts -/
theorem cal_of {P : Program} {w : World} {K : PySem.W.Frag} {mg : Str → Option Value} {base : Heap} {k : Nat} {x : Str} {n : Nat} {fr : Bool} {G : Fun1} {params : Arguments} {body : List Stmt} {scope : Scope} {ps : List Str}
    (h : ∃ f fd, FunD K x x params body scope [] [] f fd ∧ mg x = some (.ref f)) (hb : ∀ {f fd}, FunD K x x params body scope [] [] f fd → Binds K fd ps [])
    (ok : ∀ {f fd}, FunD K x x params body scope [] [] f fd → FnOk P w K mg base (L2.CX P w) k f fd ps (spD K mg n fr G)) : Cal P w K mg base k x n fr G := by
  obtain ⟨f, fd, F, hm⟩ := h
  exact ⟨f, fd, ps, ok F, hm, F.kp, hb F⟩
/-! range as a list -/
section
variable {X : Cx} {W : WX} {fr2 : Bool} {a b : Expr} {fa fb : E} {gl : EL} {pos p p2 pos2 : Pos}
def eLstR (g : List D → Option (List D)) (gl : EL) : E := fun env s => (gl env s).bind fun ds s1 => (Res.of s1 (g ds)).bind fun l s2 => .ok (.lst l) s2
theorem rgV_at {K : PySem.W.Frag} {mg : Str → Option Value} {m : WM} {H : Hp} (i j : Int) : RVs K mg m H (rngD i (j - i).toNat) (rgV i j) := by
  unfold rngD rgV
  generalize (j - i).toNat = n
  have gen : ∀ l : List Nat, RVs K mg m H (l.map fun (t : Nat) => D.int (i + t)) (l.map fun (t : Nat) => V.int (i + t)) := by
    intro l
    induction l with
    | nil => exact RVs.nil.mpr rfl
    | cons t l ih => exact RVs.mk RV.int ih
  exact gen _
theorem rngD_len (lo : Int) (n : Nat) : (rngD lo n).length = n := by unfold rngD; rw [List.length_map, List.length_range]
theorem se_lstR1 (hc : X.calm = true) (hg : Gl X "list") (hm : X.mg "list" = none) (hg2 : Gl X "range") (hm2 : X.mg "range" = none) (ha : SE X W fr2 a fa) (na : starEach [a] X.env = (false, eval a X.env) :: starEach [] X.env := by rfl)
    (na2 : starEach [.Call (.Name "range" p2) [a] [] pos2] X.env = (false, eval (.Call (.Name "range" p2) [a] [] pos2) X.env) :: starEach [] X.env := by rfl) : SE X W true (.Call (.Name "list" p) [.Call (.Name "range" p2) [a] [] pos2] [] pos) (eLstR gR1 (lCons fa lNil)) :=
  PE.imp (pe_listRg hc hg hm (prg_1 hg2 hm2 (seF ha) na) na2) fun σ H Q ⟨m, env, s, S, E, k⟩ => by
    have k' : KontG X.K X.mg (RD X.K X.mg true H) (fun c d H' => W c d σ H') m H ((fa env s).bind fun x s1 => (Res.of s1 (gR1 [x])).bind fun l s2 => .ok (.lst l) s2) Q := by
      have e : eLstR gR1 (lCons fa lNil) env s = (fa env s).bind fun x s1 => (Res.of s1 (gR1 [x])).bind fun l s2 => .ok (.lst l) s2 := by
        unfold eLstR lCons lNil
        cases fa env s <;> rfl
      rw [← e]; exact k
    refine ⟨m, env, s, S, E, (KontG.bind (R := RD X.K X.mg false H) k').imp fun x H1 ⟨dx, s1, m1, e1, A, k1⟩ => ?_⟩
    have k2 := k1.moveD A.st A.ph
    cases q : gR1 [dx] with
    | none => rw [q] at k2; exact k2.elim
    | some l =>
      rw [q] at k2
      unfold gR1 at q
      split at q
      · rename_i i hi
        cases hi
        split at q
        · rename_i h
          cases q
          have e0 : rngD 0 i.toNat = rngD 0 (i - 0).toNat := by rw [Int.sub_zero]
          refine ⟨i, A.rel.1.int', ⟨by omega, by omega, by omega, by omega, by omega⟩, fun t ht => ?_⟩
          refine k2.okG A.sim (Grw.new ht) ⟨?_, fun _ l a e1 e2 => ?_⟩
          · rw [e0]
            exact RV.newL A.sim (rgV_at 0 i) ht (by rw [rngD_len, size_lit]; omega)
          · cases e1
            cases e2
            refine ⟨Fr.of ht, A.sim.avNew (Grw.new ht) ht ⟨_, upd_same⟩, _, upd_same, ?_⟩
            rw [e0]
            exact rgV_at 0 i
        · cases q
      · cases q
end
end G

end
section
namespace G
open PySem PySem.Spec L2
open PyProof.Rows (envOfC)
variable [Tb]
section
variable {X : Cx} {W : WX} {fr cf fr2 fr3 fr4 : Bool} {e a b c : Expr} {es : List Expr} {fa fb fc : E} {gl : EL} {pos : Pos} {n : Nat}
theorem par_fin0 {K : PySem.W.Frag} {mg : Str → Option Value} {σ : L2.St} {H : Hp} {D : Ends} {is : List Nat} (h : tS K mg W fr cf (sPar is gl) D σ H) : tA K mg W n gl σ H fun vs H1 => ∃ m1 env ds s1, Sim K mg m1 s1 H1 ∧ EnvR K mg m1 H1 env σ ∧ RVs K mg m1 H1 ds vs ∧ ds.length = n ∧ KontS K mg W fr cf m1 H1 (.ok .nx (setsE is ds env) s1) D := by
  obtain ⟨m, env, s, S, E, k⟩ := h
  exact ⟨m, env, s, S, E, (KontS.st k E).imp fun vs H1 ⟨ds, s1, m1, e1, A, E1, k1⟩ => ⟨m1, env, ds, s1, A.sim, E1, A.rel.1, A.rel.2, k1⟩⟩
theorem ss_par0 {i j : Nat} {x y : Str} {px py pt : Pos} {kt k2 pt2} (hc : X.calm = true) (hN : X.N.Nodup) (hi : X.N[i]? = some x) (hj : X.N[j]? = some y) (hij : i ≠ j)
    (hx : X.env.scope.names.lookup x = some .local) (hy : X.env.scope.names.lookup y = some .local) (ha : SA X W 2 [a, b] gl)
    (hw : swappedStores [.Tuple [.Name x px, .Name y py] kt pt] (.Tuple [a, b] k2 pt2) X.env = pure (some [x, y]))
    (hs : swapsWithSole [.Tuple [.Name x px, .Name y py] kt pt] (.Tuple [a, b] k2 pt2) pos.line X.env = pure false := by rfl) : SS X W fr cf (.Assign [.Tuple [.Name x px, .Name y py] kt pt] (.Tuple [a, b] k2 pt2) pos) (sPar [i, j] gl) :=
  PS.imp (ps_par hc hN hi hj hij hx hy ha hw hs) fun D σ H h => by
    obtain ⟨m, env, s, S, E, k⟩ := par_fin0 (n := 2) h
    refine ⟨m, env, s, S, E, k.imp fun vs H1 ⟨m1, env1, ds1, s2, S1, E1, r1, l1, k1⟩ => ?_⟩
    match ds1, l1 with
    | [d1, d2], _ =>
      obtain ⟨v, w, ev, q1, q2⟩ := two r1
      exact ⟨v, w, ev, k1.nx S1 ((E1.set i q1).set j q2)⟩
theorem ss_par30 {i j l : Nat} {x y z : Str} {px py pz pt : Pos} {kt k2 pt2} (hc : X.calm = true) (hN : X.N.Nodup) (hi : X.N[i]? = some x) (hj : X.N[j]? = some y) (hl : X.N[l]? = some z) (hij : i ≠ j) (hil : i ≠ l) (hjl : j ≠ l)
    (hx : X.env.scope.names.lookup x = some .local) (hy : X.env.scope.names.lookup y = some .local) (hz : X.env.scope.names.lookup z = some .local) (ha : SA X W 3 [a, b, c] gl)
    (hw : swappedStores [.Tuple [.Name x px, .Name y py, .Name z pz] kt pt] (.Tuple [a, b, c] k2 pt2) X.env = pure (some [x, y, z]))
    (hs : swapsWithSole [.Tuple [.Name x px, .Name y py, .Name z pz] kt pt] (.Tuple [a, b, c] k2 pt2) pos.line X.env = pure false := by rfl) : SS X W fr cf (.Assign [.Tuple [.Name x px, .Name y py, .Name z pz] kt pt] (.Tuple [a, b, c] k2 pt2) pos) (sPar [i, j, l] gl) :=
  PS.imp (ps_par3 hc hN hi hj hl hij hil hjl hx hy hz ha hw hs) fun D σ H h => by
    obtain ⟨m, env, s, S, E, k⟩ := par_fin0 (n := 3) h
    refine ⟨m, env, s, S, E, k.imp fun vs H1 ⟨m1, env1, ds1, s2, S1, E1, r1, l1, k1⟩ => ?_⟩
    match ds1, l1 with
    | [d1, d2, d3], _ =>
      obtain ⟨v, r2, ev, q1, q2⟩ := RVs.cons.mp r1
      obtain ⟨w, u, ew, q3, q4⟩ := two q2
      exact ⟨v, w, u, by rw [ev, ew], k1.nx S1 (((E1.set i q1).set j q3).set l q4)⟩
theorem st_chain {op op' : CmpOp} {r r' : R2} {g g' : G2} (hg : OkOp X.K X.mg true r g) (hg' : OkOp X.K X.mg true r' g') (ha : SE X W fr2 a fa) (hb : SE X W fr3 b fb) (hc : SE X W fr4 c fc)
    (hch : ∀ {ta tb tc : TE}, PE X a ta → PE X b tb → PE X c tc → PT X (.Compare a [op, op'] [b, c] pos) (tTest (tChain r r' ta tb tc))) : ST X W (.Compare a [op, op'] [b, c] pos) (bVal (eChain g g' fa fb fc)) := PT.imp (hch (seF ha) (seF hb) (seF hc)) fun σ H Q h => by
  obtain ⟨m, env, s, S, E, k⟩ := tt_of h
  refine use2 (fr := false) S E k fun x y m2 H2 s2 dx dy st2 ph2 S2 E2 rx ry k2 => ?_
  have k3 := KontG.bind (R := RD X.K X.mg true H2) k2
  obtain ⟨d, e, q⟩ := fin_of S2 k3
  refine hg m2 s2 H2 x y dx dy d _ S2 rx ry e fun v H3 g3 r3 f3 => ?_
  obtain ⟨d', s3, m3, e3, A, k4⟩ := q v H3 g3 r3 f3
  have k5 := k4.moveD A.st A.ph
  cases d' with
  | bl c =>
    have er := A.rel.1.bl'
    subst er
    refine ⟨c, rfl, ?_⟩
    cases c with
    | true =>
      rw [if_pos rfl]
      refine ⟨m3, env, s3, A.sim, E2.mono A.st.wk, (KontG.bind (R := RD X.K X.mg false H3) k5).imp fun w H4 ⟨dw, s4, m4, e4, B, k6⟩ => ?_⟩
      obtain ⟨d4, e4, q4⟩ := fin_of B.sim (k6.moveD B.st B.ph)
      exact hg' m4 s4 H4 y w dy dw d4 _ B.sim (RV.mono B.st.wk _ _ (RV.mono A.st.wk _ _ ry)) B.rel.1 e4 fun v H' g r f => q4 v H' g r fun z => nomatch z
    | false =>
      rw [if_neg (by decide)]
      exact k5.ok A.sim ⟨RV.bl, fun _ _ _ z => nomatch z⟩
  | _ => exact k5.elim
/-- a built-in type as a value -/
theorem se_ty {x : Str} {T : String} (hg : Gl X x) (hm : X.mg x = none) (hv : bootBuiltins x = some (.type T)) (hn : x ≠ "__name__" := by decide) (hd : (x == ("__debug__" : Str)) = false := by decide) : SE X W true (.Name x pos) (eC (.ty T)) :=
  se_c (pe_bltn (v := .ty T) hg hm hv rfl hn hd) (fun _ _ => RV.ty) (.inr fun _ z => nomatch z)
end
end G
namespace G
open PySem PySem.Spec L2
open PyProof.Rows (envOfC)
variable [Tb]
/-- turns enough for Euclid's steps: by the slot's number -/
def wfuel (i : Nat) (env : Env) : Nat := match env[i]? with
  | some (some (.int n)) => n.toNat + 1
  | _ => 0
theorem units5 {k : Nat} {A : Around} (r : Room k A) : A.units + 65 < cLine := by have := r.un; omega
theorem cal_bad {P : Program} {w : World} {K : PySem.W.Frag} {mg : Str → Option Value} {base : Heap} {k : Nat} {x : Str} {n : Nat} {fr : Bool} {params : Arguments} {body : List Stmt} {scope : Scope} {ps : List Str}
    (h : ∃ f fd, FunD K x x params body scope [] [] f fd ∧ mg x = some (.ref f)) (hb : ∀ {f fd}, FunD K x x params body scope [] [] f fd → Binds K fd ps []) {G : Fun1} (hG : G = fun _ _ => .bad) : Cal P w K mg base k x n fr G := by
  obtain ⟨f, fd, F, hm⟩ := h
  subst hG
  refine ⟨f, fd, ps, ⟨fun vs H Q E ⟨m, ds, s, _, _, _, k⟩ => k.elim, fun A outer s H args us vs Q E hr e0 hb hv ⟨m, ds, s0, _, _, _, k⟩ => k.elim⟩, hm, F.kp, hb F⟩
end G

end
section
namespace HT
open PySem PyProof.Rows
open Sem (wp)
section
variable {prog : Program} {w : World} {A : Around} {E : Value → Shared → Prop} {s : Shared}
theorem rev_adjust (n : Nat) : Builtin.Slice.sliceAdjust none none (-1) (n : Int) = ((n : Int) - 1, -1) := rfl
theorem rev_places (n : Nat) : Builtin.Slice.slicePlaces ((n : Int) - 1) (-1) (-1) = n := by
  unfold Builtin.Slice.slicePlaces
  have h1 : ¬ ((-1 : Int) > 0) := by decide
  simp only [h1, if_false]
  split
  · have e : ((n : Int) - 1 - -1 - 1) / (- -1) + 1 = (n : Int) := by
      rw [show (- -1 : Int) = 1 by decide, Int.ediv_one]
      omega
    rw [e, Int.toNat_natCast]
  · have : n = 0 := by omega
    subst this
    rfl
theorem rev_pick (xs : Array Value) : ((List.range xs.size).filterMap fun (m : Nat) => xs[(((xs.size : Int) - 1) + (m : Int) * (-1)).toNat]?).toArray = xs.toList.reverse.toArray := by
  have e : ∀ n : Nat, n = xs.size → ((List.range n).filterMap fun (m : Nat) => xs[(((xs.size : Int) - 1) + (m : Int) * (-1)).toNat]?) = ((List.range n).map fun k => n - 1 - k).filterMap (xs[·]?) := by
    intro n hn
    rw [List.filterMap_map]
    have : ∀ l : List Nat, (∀ m ∈ l, m < n) → l.filterMap (fun (m : Nat) => xs[(((xs.size : Int) - 1) + (m : Int) * (-1)).toNat]?) = l.filterMap ((xs[·]?) ∘ fun k => n - 1 - k) := by
      intro l
      induction l with
      | nil => intro _; rfl
      | cons m l ih =>
        intro hl
        have h1 := hl m (List.mem_cons_self ..)
        have e1 : (((xs.size : Int) - 1) + (m : Int) * (-1)).toNat = n - 1 - m := by omega
        have e2 := ih fun z hz => hl z (List.mem_cons_of_mem _ hz)
        simp only [List.filterMap_cons, e1, e2, Function.comp]
    exact this _ fun m hm => List.mem_range.mp hm
  rw [e xs.size rfl, PySem.W.krv_range, List.filterMap_reverse, PySem.W.krv_all]
theorem sliceApplied_rev {sl : Addr} {vl vu vs : Value} {n : Nat} {Q : Int × Int × Nat → Shared → Prop} (hs : s.heap.IsSliceOf sl vl vu vs) (pl : IsPart vl none) (pu : IsPart vu none) (ps : IsPart vs (some (-1)))
    (h : Q ((n : Int) - 1, -1, n) s) : wpAny (model prog w) A (Builtin.Slice.sliceApplied (.ref sl) (pure (n : Int))) Q E s := by
  obtain ⟨os, hos, hcs, hds⟩ := id hs
  unfold Builtin.Slice.sliceApplied Builtin.Slice.sliceFields
  refine wpAny_bind (wpAny_bind (wpAny_field hos hds (x := vl) rfl (wpAny_bind (wpAny_field hos hds (x := vu) rfl (wpAny_bind (wpAny_field hos hds (x := vs) rfl (wpAny_pure ?_)))))))
  refine wpAny_bind (slicePart_ ps ?_)
  show wpAny _ _ (if ((-1 : Int) == 0) = true then _ else _) _ _ s
  rw [if_neg (by decide)]
  refine wpAny_bind (slicePart_ pl (wpAny_bind (slicePart_ pu (wpAny_bind (wpAny_pure ?_)))))
  show wpAny _ _ (match Builtin.Slice.sliceAdjust none none (-1) (n : Int) with | (lo, hi) => pure (lo, (-1 : Int), Builtin.Slice.slicePlaces lo hi (-1))) _ _ s
  rw [rev_adjust]
  show wpAny _ _ (pure ((n : Int) - 1, (-1 : Int), Builtin.Slice.slicePlaces ((n : Int) - 1) (-1) (-1))) _ _ s
  rw [rev_places]
  exact wpAny_pure h
theorem getItem_tuple_rev {t sl : Addr} {items : Array Value} {vl vu vs : Value} {Q : Value → Shared → Prop} (ht : IsTup s.heap t items) (hs : s.heap.IsSliceOf sl vl vu vs) (pl : IsPart vl none) (pu : IsPart vu none) (ps : IsPart vs (some (-1)))
    (h : Q (.ref s.heap.objs.size) { s with heap := s.heap.push { cls := .type "tuple", data := .seq items.toList.reverse.toArray } })
    (hsz : items.size ≤ sizeLine) : wpAny (model prog w) A (getItem (.ref t) (.ref sl)) Q E s := by
  have htake : sizeOk (.seq items.toList.reverse.toArray) := by
    show items.toList.reverse.toArray.size ≤ sizeLine
    rw [List.size_toArray, List.length_reverse, Array.length_toList]
    omega
  obtain ⟨os, hos, hcs, hds⟩ := id hs
  have hTs : s.TypeIs (.ref sl) "slice" := ⟨os, hos, hcs⟩
  unfold getItem
  try with_reducible refine wpAny_holding ?_
  first | refine wpAny_bind (wpAny_pure ?_) | skip
  refine wpAny_bind (wpAny_sequenceKey ht.typeIs (by decide) ?_)
  refine wpAny_bind (wpAny_callSpecial?_slot (name := Str.ofString "__getitem__") ht.typeIs PyProof.Rows.slot_tuple_getitem
    (wpAny_call_entry PyProof.Rows.slot_tuple_getitem ht.typeIs entry_tuple_getitem ?_ (args_tuple_getitem _ _)))
  show wpAny _ _ (Builtin.Tuple.tupleItemsOf (.ref t) >>= _) _ _ s
  refine wpAny_bind (tupleItemsOf_ ht ?_)
  refine wpAny_bind (wpAny_typeOf hTs ?_)
  rw [if_pos (by decide)]
  refine wpAny_bind (sliceApplied_rev hs pl pu ps ?_)
  have hno : ¬ (((((items.size : Int) - 1) == 0 && (-1 : Int) == 1 && items.size == items.size)) = true) := by
    intro q
    rw [Bool.and_eq_true, Bool.and_eq_true] at q
    exact absurd q.1.2 (by decide)
  show wpAny _ _ (if ((((items.size : Int) - 1) == 0 && (-1 : Int) == 1 && items.size == items.size)) = true then _ else _) _ _ s
  rw [if_neg hno, rev_pick]
  first
    | exact wpAny_bind (m := Builtin.Tuple.tupleExact _) (wpAny_newObj_type (wpAny_pure ⟨_, rfl, wpAny_pure h⟩) htake)
    | exact wpAny_bind (m := Builtin.Tuple.tupleExact _) (wpAny_newObj_type (wpAny_bind (wpAny_pure (wpAny_pure ⟨_, rfl, wpAny_pure h⟩))) htake)
    | exact wpAny_bind (wpAny_bind (m := Builtin.Tuple.tupleExact _) (wpAny_newObj_type (wpAny_pure (wpAny_pure ⟨_, rfl, wpAny_pure h⟩)) htake))
    | exact wpAny_bind (wpAny_bind (m := Builtin.Tuple.tupleExact _) (wpAny_newObj_type (wpAny_pure ⟨_, rfl, wpAny_pure h⟩) htake))
end
end HT
namespace G
open PySem PySem.Spec L2
open PyProof.Rows
variable [Tb]
section
variable {X : Cx} {W : WX} {fr cf fr2 fr3 fr4 : Bool} {e a b c : Expr} {es : List Expr} {fa fb fc : E} {gl : EL} {pos : Pos} {n : Nat}
def tRevA (K : PySem.W.Frag) (te : TE) : TE := fun σ H Q => te σ H fun x H1 => ∃ a xs, x = .ref a ∧ ((SqL K H1 a xs ∧ ∀ p, H1 p = none → Q (.ref p) (upd H1 p (.lst xs.reverse))) ∨ (SqT K H1 a xs ∧ ∀ p, H1 p = none → Q (.ref p) (upd H1 p (.tup xs.reverse))))
theorem pe_revA {te : TE} {k : Nat} {p1 p2 p3 : Pos} (he : PE X e te) : PE X (.Subscript e (.Slice none none (some (.UnaryOp .USub (.Constant (.int 1) k p1) p2)) p3) pos) (tRevA X.K te) := by
  refine ⟨fun pins s σ H Q I h => ?_⟩
  refine Subscript_ (thn (he.run pins s σ H _ I h) fun v s1 ⟨x, H1, I1, r1, q1⟩ => ?_)
  obtain ⟨a, xs, ex, hx⟩ := q1
  subst ex
  cases r1
  have hst : PO X (some (.UnaryOp .USub (.Constant (.int 1) k p1) p2)) (tPart (tUn (rU fun i => .int (-i)) (tC (.int 1)))) := po_some (pe_un un_neg pe_int)
  refine wpAny_Slice (thn (po_none.run pins s1 σ H1 (fun o H2 => o = none ∧ H2 = H1) I1 ⟨rfl, rfl⟩) fun vl s2 ⟨l, H2, I2, pl, el, e2⟩ => ?_)
  subst el e2
  refine thn (po_none.run pins s2 σ H2 (fun o H3 => o = none ∧ H3 = H2) I2 ⟨rfl, rfl⟩) fun vu s3 ⟨u, H3, I3, pu, eu, e3⟩ => ?_
  subst eu e3
  refine thn (hst.run pins s3 σ H3 (fun o H4 => o = some (-1) ∧ H4 = H3) I3 ⟨1, rfl, -1, rfl, rfl, rfl⟩) fun vs s4 ⟨o, H4, I4, ps, eo, e4⟩ => ?_
  subst eo e4
  have I5 : Inv X pins σ H4 { s4 with heap := s4.heap.push { cls := .type "slice", data := .fields #[vl, vu, vs] } } := I4.kept (t' := s4.toks) fun b ob q => Heap.get?_push_of_some _ q
  show wpAny (model X.prog X.w) X.A (subscriptTail e (.Slice none none (some (.UnaryOp .USub (.Constant (.int 1) k p1) p2)) p3) (.ref a) (.ref s4.heap.objs.size)) (EP X pins σ Q) X.xe { s4 with heap := s4.heap.push { cls := .type "slice", data := .fields #[vl, vu, vs] } }
  rcases hx with ⟨hx, q⟩ | ⟨hx, q⟩
  · obtain ⟨its, r, ht, hz⟩ := I5.list hx
    have hlen := r.length
    refine tail_any (ops := [.ref a, .ref s4.heap.objs.size]) ht.isList.typeIs (PySem.slot_list_getitem.lookup) ?_ (by with_unfolding_all rfl)
    refine wpAny_getItem_list_slice ht.isList (Heap.IsSliceOf.new _ vl vu vs) pl pu ps (by decide) ?_ (by rw [List.size_toArray]; omega)
    rw [PySem.W.krv_pick]
    refine ⟨.ref _, _, I5.laid (t' := s4.toks) (o := .lst xs.reverse) (fun b ob q => Heap.get?_push_of_some _ q) (Nat.le_refl _) ?_, rfl, q _ (I5.hok.fresh (Nat.le_refl _))⟩
    exact ⟨by rw [List.length_reverse]; exact hz, _, 0, r.reverse, Heap.get?_push_size _ rfl⟩
  · obtain ⟨its, r, ht, hz⟩ := I5.tuple hx
    have hlen := r.length
    refine tail_any (ops := [.ref a, .ref s4.heap.objs.size]) ht.typeIs (PyProof.Rows.slot_tuple_getitem.lookup) ?_ (by with_unfolding_all rfl)
    refine HT.getItem_tuple_rev ht (Heap.IsSliceOf.new _ vl vu vs) pl pu ps ?_ (by rw [List.size_toArray]; omega)
    refine ⟨.ref _, _, I5.laid (t' := s4.toks) (o := .tup xs.reverse) (fun b ob q => Heap.get?_push_of_some _ q) (Nat.le_refl _) ?_, rfl, q _ (I5.hok.fresh (Nat.le_refl _))⟩
    exact ⟨by rw [List.length_reverse]; exact hz, _, r.reverse, IsTup.new _ _⟩
def dRev : Sto → D → Option D := fun s x => match x with
  | .tup l => some (.tup l.reverse)
  | .lst l => some (.lst l.reverse)
  | _ => none
theorem se_rev {k : Nat} {p1 p2 p3 : Pos} (he : SE X W fr2 e fa) : SE X W true (.Subscript e (.Slice none none (some (.UnaryOp .USub (.Constant (.int 1) k p1) p2)) p3) pos) (eUn dRev fa) := PE.imp (pe_revA (seF he)) fun σ H Q ⟨m, env, s, S, E, k0⟩ => by
  refine ⟨m, env, s, S, E, (KontG.bind (R := RD X.K X.mg false H) k0).imp fun x H1 ⟨dx, s1, m1, e1, A, k1⟩ => ?_⟩
  obtain ⟨d, q1, q⟩ := fin_of A.sim (k1.moveD A.st A.ph)
  have q' : ∀ v H', Grw H1 H' → RV X.K X.mg m1 H' d v → (∀ l, d = .lst l → NewL X.K X.mg m1 H1 H' l v) → Q v H' := fun v H' g r f => q v H' g r fun _ => f
  unfold dRev at q1
  split at q1
  · cases q1
    obtain ⟨p, vs, e2, h1, z1, r1⟩ := A.rel.1.tup'
    exact ⟨p, vs, e2, .inr ⟨SqT.of h1, fun t ht => fin_tup r1.reverse (by rw [List.length_reverse]; exact z1) ht q'⟩⟩
  · cases q1
    obtain ⟨p, vs, e2, h1, _, _, z1, r1⟩ := A.rel.1.lst'
    exact ⟨p, vs, e2, .inl ⟨SqL.of h1, fun t ht => fin_lst A.sim r1.reverse (by rw [List.length_reverse]; exact z1) ht q'⟩⟩
  · cases q1
/-! ints and truths -/
def bi (b : Bool) : Int := if b = true then 1 else 0
def dAddB : G2 := fun s x y => match x, y with
  | .bl b, .int j => some (.int (bi b + j))
  | _, _ => dAdd s x y
def dSubB : G2 := fun s x y => match x, y with
  | .bl b, .int j => some (.int (bi b - j))
  | _, _ => dSub s x y
def dNegB : Sto → D → Option D := fun s x => match x with
  | .bl b => some (.int (-(bi b)))
  | _ => dNeg s x
def rBI (f : Bool → Int → Int) : R2 := fun x y H Q => ∃ b j, x = .bl b ∧ y = .int j ∧ Q (.int (f b j)) H
theorem op_addB : OpR X (binaryOp .Add) (fun x y H Q => rBI (fun b j => bi b + j) x y H Q ∨ rAddAll X.K x y H Q) := OpR.or (by
  intro pins s σ H x y v u Q I rx ry ⟨b, j, e1, e2, q⟩
  subst e1 e2
  cases rx
  obtain ⟨t, rfl⟩ := ry
  exact PySem.IntBool.add_bool_int ⟨.int _, H, I.tok _, ⟨_, rfl⟩, q⟩) op_addAll
theorem op_subB : OpR X (binaryOp .Sub) (fun x y H Q => rBI (fun b j => bi b - j) x y H Q ∨ rI0 (fun i j => .int (i - j)) x y H Q) := OpR.or (by
  intro pins s σ H x y v u Q I rx ry ⟨b, j, e1, e2, q⟩
  subst e1 e2
  cases rx
  obtain ⟨t, rfl⟩ := ry
  exact PySem.IntBool.sub_bool_int ⟨.int _, H, I.tok _, ⟨_, rfl⟩, q⟩) op_sub
theorem neg_bool {prog : Program} {w : World} {A : Around} {E : Value → Shared → Prop} {s : Shared} {b : Bool} {Q : Value → Shared → Prop} (h : Q (.int (-(bi b)) s.toks) { s with toks := s.toks + 1 }) : wpAny (model prog w) A (unaryOp .USub (.bool b)) Q E s := by
  unfold unaryOp
  refine wpAny_holding ?_
  refine wpAny_bind (m := callSpecial? (.bool b) (Str.ofString "__neg__")) (wpAny_callSpecial?_slot (T := "bool") (name := Str.ofString "__neg__") rfl PySem.F.slot_bool_neg
    (wpAny_call_entry PySem.F.slot_bool_neg (T := "bool") rfl PyProof.Rows.entry_int_neg ?_ (PyProof.Rows.args_int_neg _)))
  show wpAny _ _ (do ret (← mkInt (-(bi b)))) _ _ s
  exact wpAny_ret_mkInt (wpAny_pure h)
theorem un_negB : UnR X (unaryOp .USub) (fun x H Q => (∃ b, x = .bl b ∧ Q (.int (-(bi b))) H) ∨ rU (fun i => .int (-i)) x H Q) := by
  intro pins s σ H x v Q I rx h
  rcases h with ⟨b, e1, q⟩ | h
  · subst e1
    cases rx
    exact neg_bool ⟨.int _, H, I.tok _, ⟨_, rfl⟩, q⟩
  · exact un_neg pins s σ H x v Q I rx h
section
variable {K : PySem.W.Frag} {mg : Str → Option Value}
theorem ok_addB : OkOp K mg true (fun x y H Q => rBI (fun b j => bi b + j) x y H Q ∨ rAddAll K x y H Q) dAddB := by
  intro m s H x y dx dy d Q S rx ry e k
  unfold dAddB at e
  split at e
  · cases e
    exact .inl ⟨_, _, rx.bl', ry.int', k _ _ Grw.refl RV.int fun _ _ z => nomatch z⟩
  · exact .inr (ok_add m s H x y dx dy d Q S rx ry e k)
theorem ok_subB : OkOp K mg true (fun x y H Q => rBI (fun b j => bi b - j) x y H Q ∨ rI0 (fun i j => .int (i - j)) x y H Q) dSubB := by
  intro m s H x y dx dy d Q S rx ry e k
  unfold dSubB at e
  split at e
  · cases e
    exact .inl ⟨_, _, rx.bl', ry.int', k _ _ Grw.refl RV.int fun _ _ z => nomatch z⟩
  · exact .inr (ok_sub m s H x y dx dy d Q S rx ry e k)
theorem ok_negB : OkU K mg true (fun x H Q => (∃ b, x = .bl b ∧ Q (.int (-(bi b))) H) ∨ rU (fun i => .int (-i)) x H Q) dNegB := by
  intro m s H x dx d Q S rx e k
  unfold dNegB at e
  split at e
  · cases e
    exact .inl ⟨_, rx.bl', k _ _ Grw.refl RV.int fun _ _ z => nomatch z⟩
  · exact .inr (ok_neg m s H x dx d Q S rx e k)
def mUpper : GM := fun s o ds => match o, ds with
  | .str z, [] => if z.length ≤ 5592405 then some (.str (Txt.upper z), s) else none
  | _, _ => none
theorem ok_upper : OkM K mg "str" (fun x xs H Q => ∃ a, x = .str a ∧ xs = [] ∧ a.length ≤ 5592405 ∧ Q (.str (Txt.upper a)) H) mUpper := by
  intro m s H x xs dx ds p Q S rx rs e k
  unfold mUpper at e
  split at e
  · split at e
    · rename_i h
      cases e
      exact ⟨_, rx.str', RVs.nil.mp rs, h, k _ _ Stp.refl S RV.str⟩
    · cases e
  · cases e
end
/-! not x, x of any kind that has a truth here -/
def truD : D → Option Bool
  | .non => some false
  | .bl b => some b
  | .int i => some (i != 0)
  | .tup l => some (!l.isEmpty)
  | .lst l => some (!l.isEmpty)
  | _ => none
def eNotT (a : E) : E := fun env s => (a env s).bind fun x s1 => Res.of s1 ((truD x).map fun b => .bl (!b))
theorem RVs.isEmpty {K : PySem.W.Frag} {mg : Str → Option Value} {m : WM} {H : Hp} {ds : List D} {vs : List V} (h : RVs K mg m H ds vs) : vs.isEmpty = ds.isEmpty := by
  have := h.length
  cases ds <;> cases vs <;> simp_all
theorem truV_of {K : PySem.W.Frag} {mg : Str → Option Value} {m : WM} {H : Hp} {d : D} {v : V} {b : Bool} (r : RV K mg m H d v) (e : truD d = some b) : TruV K v H b := by
  unfold truD at e
  split at e
  · cases e; rw [r.non']; rfl
  · cases e; rw [r.bl']; rfl
  · cases e; rw [r.int']; rfl
  · cases e
    obtain ⟨p, vs, e2, h1, z1, r1⟩ := r.tup'
    subst e2
    exact .inr (.inl ⟨vs, SqT.of h1, by rw [r1.isEmpty]⟩)
  · cases e
    obtain ⟨p, vs, e2, h1, _, _, z1, r1⟩ := r.lst'
    subst e2
    exact .inl ⟨vs, SqL.of h1, by rw [r1.isEmpty]⟩
  · cases e
theorem se_notT (ha : SE X W fr2 a fa) : SE X W true (.UnaryOp .Not a pos) (eNotT fa) := PE.imp (pe_notT (seF ha)) fun σ H Q ⟨m, env, s, S, E, k⟩ => by
  refine ⟨m, env, s, S, E, (KontG.bind (R := RD X.K X.mg false H) k).imp fun x H1 ⟨dx, s1, m1, e1, A, k1⟩ => ?_⟩
  obtain ⟨d, q1, q⟩ := fin_of A.sim (k1.moveD A.st A.ph)
  cases q2 : truD dx with
  | none => rw [q2] at q1; cases q1
  | some b =>
    rw [q2] at q1
    cases q1
    exact ⟨b, truV_of A.rel.1 q2, q _ _ Grw.refl RV.bl fun _ _ z => nomatch z⟩
theorem st_cmpA {op : CmpOp} {r : R2} {g : G2} (ho : OpR X (compareOp op) r) (hg : OkOp X.K X.mg fr r g) (ha : SE X W fr2 a fa) (hb : SE X W fr3 b fb) (hm : behindInMarks op b = false) : ST X W (.Compare a [op] [b] pos) (bVal (eOp g fa fb)) :=
  st_cmp ho (fun m s H x y dx dy d Q S rx ry e k => hg m s H x y dx dy d Q S rx ry e fun v H' g r f => k v H' g r fun z => nomatch z) ha hb hm
end
end G

end
section
namespace G
open PySem PySem.Spec L2
open PyProof.Rows (envOfC)
variable [Tb]
/-! ### the head's own -/
def CXP (P : Program) : L2.CXT := fun outer H s E u s' => ∃ w, L2.CX P w outer H s E u s'
theorem cxp_no {P : Program} (H : Hp) (s : Shared) (e : Value) (s' : Shared) (h : CXP P [] H s (fun _ _ _ => False) e s') : False := by
  obtain ⟨w, h⟩ := h
  unfold L2.CX at h
  obtain ⟨_, _, _, _, _, h⟩ := h
  exact h.2.2.2.2.2.2.2
theorem fn_cxp {P : Program} {w : World} {K : PySem.W.Frag} {mg : Str → Option Value} {base : Heap} {k : Nat} {f : Addr} {fd : FuncData} {ps : List Str} {sp : Sp} (F : FnOk P w K mg base (L2.CX P w) k f fd ps sp) : FnOk P w K mg base (CXP P) k f fd ps sp :=
  ⟨F.len, fun A outer s H args us vs Q E hr he hb hv hs => codeAny_mono (F.run A outer s H args us vs Q E hr he hb hv hs) fun r s' h => by
    cases r with
    | ok x => cases x <;> exact h
    | error e => exact ⟨w, h⟩⟩
theorem only_scr {K : PySem.W.Frag} {H : Hp} {a : Addr} {xs : List V} (hO : Only H) (h : SqL K H a xs) : ScrAt K H a xs := by
  rcases h with ⟨h | ⟨o, h⟩⟩ | h
  · rcases hO a with q | ⟨o, ys, q⟩
    · rw [q] at h; cases h
    · rw [q] at h; cases h
  · exact .inl ⟨o, h⟩
  · exact .inr (.inr h)
theorem scr_of {K : PySem.W.Frag} {H : Hp} {a : Addr} {xs : List V} (h : SqL K H a xs) : ScrAt K H a xs ∨ (H a = some (.lst xs) ∧ a ∉ ({} : WM).phi ∧ a ∉ ({} : WM).av) := by
  rcases h with ⟨h | ⟨o, h⟩⟩ | h
  · exact .inr ⟨h, (by intro z; cases z), (by intro z; cases z)⟩
  · exact .inl (.inl ⟨o, h⟩)
  · exact .inl (.inr (.inr h))
theorem sp_of {K : PySem.W.Frag} {mg : Str → Option Value} {fr : Bool} {F : Fun1} (hF : ∀ ns : List Int, ns.length ≤ 63 → ∃ s, F [.scr ns] {} = .ok (.bl true) s) (H : Hp) (a : Addr) (ns : List Int) (hl : ns.length ≤ 63) (hT : LamX.Tabs (Tb.T K) H) (hS : SqL K H a (ns.map V.int)) : spD K mg 1 fr F [.ref a] H (fun v _ => v = .bl true) fun _ _ _ => False := by
  obtain ⟨s1, e⟩ := hF ns hl
  refine ⟨{}, [.scr ns], {}, ⟨rfl, List.nodup_nil, fun n a xs h => (by cases h), fun a h => (by cases h), rfl, fun n p o h => (by cases h), List.nodup_nil, hT⟩, RVs.mk ?_ (RVs.nil.mpr rfl), rfl, ?_⟩
  · unfold RV
    exact ⟨a, rfl, Nat.le_trans hl (by decide), scr_of hS⟩
  · rw [e]
    intro v m' H' _ _ _ r
    exact r.1.bl'
end G

end
section
namespace G
open PySem PySem.Spec L2
open PyProof.Rows (envOfC)
variable [Tb]
/-! ### a call of a local name that holds a def -/
def valAt (i : Nat) (env : Env) : Option Str := match env[i]? with
  | some (some (.fn x)) => some x
  | _ => none
def eCallV (i : Nat) (tbl : List (Str × Fun1)) (gl : EL) : E := fun env s => match (valAt i env).bind fun y => tbl.lookup y with
  | some F => (gl env s).bind F
  | none => .bad
section
variable {X : Cx} {W : WX} {fr cf fr2 fr3 : Bool} {e : Expr} {es : List Expr} {fa : E} {gl : EL} {pos : Pos} {n k i : Nat}
theorem se_callV {x : Str} {p : Pos} {tbl : List (Str × Fun1)} (A : ∀ y F, tbl.lookup y = some F → Cal X.prog X.w X.K X.mg X.base k y n fr F) (hr : Room k X.A) (tk : Takes X W) (hW : ∀ c d σ σ' H, W c d σ H → W c d σ' H) (hN : X.N[i]? = some x) (hv : Vis X.env.scope x) (ha : SA X W n (e :: es) gl) (hdb : (x == ("__debug__" : Str)) = false := by decide) (hcd : (x == ("__classdict__" : Str)) = false := by decide)
    (he : starEach (e :: es) X.env = (false, eval e X.env) :: starEach es X.env := by rfl) (hpl : (backTo pos (starEach es X.env)).any (·.1) = false := by rfl) : SE X W fr (.Call (.Name x p) (e :: es) [] pos) (eCallV i tbl gl) := by
  refine ⟨fun pins s σ H Q I h => ?_⟩
  obtain ⟨m, env, s0, S, E, kk⟩ := h
  unfold eCallV at kk
  cases q : (valAt i env).bind fun y => tbl.lookup y with
  | none => rw [q] at kk; exact kk.elim
  | some F =>
    rw [q] at kk
    obtain ⟨y, hy, hF⟩ := Option.bind_eq_some_iff.mp q
    have hfn : env[i]? = some (some (.fn y)) := by
      unfold valAt at hy
      split at hy
      · rename_i z; cases hy; exact z
      · cases hy
    obtain ⟨v, hs, rv⟩ := E.2 i _ hfn
    obtain ⟨f, fd, ps, ok, hm, hk, hb⟩ := A y F hF
    unfold RV at rv
    obtain ⟨f', ev, hm'⟩ := rv
    rw [hm] at hm'
    cases hm'
    subst ev
    refine (pe_callL (i := i) (f := f) (E := WE W σ) (dvs := []) ok hr hN hv hk hb .nil (passes_call tk fun c d σ' H' z => hW c d σ σ' H' z) ha hdb hcd he hpl).run pins s σ H Q I ⟨hs, ?_⟩
    refine ⟨m, env, s0, S, E, (KontG.bind kk).imp fun xs H1 ⟨dxs, s1, m1, e1, A1, k1⟩ => ?_⟩
    refine ⟨m1, dxs, s1, A1.sim, ?_, A1.rel.2, k1.moveD A1.st A1.ph⟩
    rw [List.append_nil]
    exact A1.rel.1
/-! ### a def that calls what it got, and tells of the exceptions -/
def pickX : List (Str × Str) → Xn → Sto → Res D
  | [], _, _ => .bad
  | (n, r) :: l, x, s => if x.cls = n then .ok (.str r) s else pickX l x s
def tellX (hs : List (Str × Str)) (fin : Option Str) (th : Sto → Res D) : Sto → Res D := fun s => match th s with
  | .ok d s' => (match fin with
    | some r => .ok (.str r) s'
    | none => .ok d s')
  | .err x s' => pickX hs x s'
  | .bad => .bad
def eLam (hs : List (Str × Str)) (fin : Option Str) (f : E) : E := fun env s => tellX hs fin (f env) s
/-- what is wished of an exception -/
def chainE (K : PySem.W.Frag) (Q : VK) : List (Addr × Str) → XK
  | [] => fun _ _ _ => False
  | (c, r) :: l => fun cls d H => ∃ b, PySem.W.exmOne K cls (.ref c) = some b ∧ (b = true → Q (.str r) H) ∧ (b = false → chainE K Q l cls d H)
def hdsL (hs : List (Addr × Str)) : List (Value × (Addr → Value → Option Addr → TS)) := hs.map fun p => (.ref p.1, fun _ _ _ => tRet (tC (.str p.2)))
theorem chain_many {K : PySem.W.Frag} {Wout : WX} {D : Ends} : ∀ {hs : List (Addr × Str)} {cls : Value} {d : Option Addr} {σ : L2.St} {H : Hp}, chainE K D.rt hs cls d H → wMany K Wout D (hdsL hs) cls d σ H
  | [], _, _, _, _, h => h.elim
  | (c, r) :: l, cls, d, σ, H, h => by
    obtain ⟨b, e, h1, h2⟩ := h
    exact ⟨b, e, fun hb a _ => h1 hb, fun hb => chain_many (h2 hb)⟩
def TTx (K : PySem.W.Frag) (hs : List (Addr × Str)) (fin : Option Str) : (XK → Hp → VK → Prop) → Hp → VK → Prop := fun tl H Q =>
  tl (chainE K Q hs) H (match fin with
    | some r => fun _ H' => Q (.str r) H'
    | none => Q)
theorem tells_ret {Ng : List Str} {x a q : Str} {sg : Scope} {g : Addr} {cdg : Value} {hd : ExceptHandler} {hds : List ExceptHandler} {hs : List (Addr × Str)} {p1 p2 p3 p8 : Pos}
    (hh : ∀ s H, HdsOk (cxOf C8.CX0 X.prog X.w X.K X.mg X.base Ng x sg g cdg X.A X.stack s H C8.E0).nox (hd :: hds) (hdsL hs)) (h0 : ∀ f : Addr, (L2.start Ng [V.ref f])[0]? = some (some (V.ref f))) :
    LamX.GivesTo X Ng x sg g cdg [.Try [.Return (some (.Call (.Name a p1) [] [] p2)) p3] (hd :: hds) [] [] p8] a q (TTx X.K hs none) := by
  intro f c' s H Q tl act hc h
  refine ⟨_, pss_one (ps_try_many (X := (cxOf C8.CX0 X.prog X.w X.K X.mg X.base Ng x sg g cdg X.A X.stack s H C8.E0).nox) (l := hdsL hs)
      (tb := fun W D σ H => ∃ Ech : XK, (∀ cls d σ' H', Ech cls d H' → W cls d σ' H') ∧ σ[0]? = some (some (.ref f)) ∧ H c' = some (LamX.CodeO c' q) ∧ tl Ech H D.rt)
      rfl rfl LamX.takes0 (fun W pn xe tk _ => ?_) (hh s H)), ?_⟩
  · refine ⟨fun pins s' σ H' D I h' => ?_⟩
    obtain ⟨Ech, hW, h1, h2, h3⟩ := h'
    have hp := act W pn xe Ech p1 p2 tk hW
    have hq := pss_one (ps_ret (pos := p3) hp)
    exact hq.run pins s' σ H' D I ⟨h1, h2, h3⟩
  · exact ⟨chainE X.K Q hs, fun cls d σ' H' z => chain_many (D := { nx := fun _ H' => Q .non H', rt := Q }) z, h0 f, hc, h⟩
theorem tells_fin {Ng : List Str} {x a q fin : Str} {j : Nat} {sg : Scope} {g : Addr} {cdg : Value} {hd : ExceptHandler} {hds : List ExceptHandler} {hs : List (Addr × Str)} {p1 p2 p3 p5 p6 p8 : Pos}
    (hh : ∀ s H, HdsOk (cxOf C8.CX0 X.prog X.w X.K X.mg X.base Ng x sg g cdg X.A X.stack s H C8.E0).nox (hd :: hds) (hdsL hs)) (h0 : ∀ f : Addr, (L2.start Ng [V.ref f])[0]? = some (some (V.ref f))) :
    LamX.GivesTo X Ng x sg g cdg [.Try [.Expr (.Call (.Name a p1) [] [] p2) p3] (hd :: hds) [] [] p8, .Return (some (.Constant (.str fin) j p5)) p6] a q (TTx X.K hs (some fin)) := by
  intro f c' s H Q tl act hc h
  refine ⟨_, pss_cons (ps_try_many (X := (cxOf C8.CX0 X.prog X.w X.K X.mg X.base Ng x sg g cdg X.A X.stack s H C8.E0).nox) (l := hdsL hs)
      (tb := fun W D σ H => ∃ Ech : XK, (∀ cls d σ' H', Ech cls d H' → W cls d σ' H') ∧ σ[0]? = some (some (.ref f)) ∧ H c' = some (LamX.CodeO c' q) ∧ tl Ech H (fun _ H' => D.nx σ H'))
      rfl rfl LamX.takes0 (fun W pn xe tk _ => ?_) (hh s H)) (pss_one (ps_ret pe_str)), ?_⟩
  · refine ⟨fun pins s' σ H' D I h' => ?_⟩
    obtain ⟨Ech, hW, h1, h2, h3⟩ := h'
    have hp := act W pn xe Ech p1 p2 tk hW
    have hq := pss_one (ps_expr (pos := p3) hp (by rfl))
    exact hq.run pins s' σ H' D I ⟨h1, h2, h3⟩
  · refine ⟨chainE X.K Q hs, fun cls d σ' H' z => chain_many (D := { nx := fun σ H' => tRet (tC (.str fin)) { nx := fun _ H' => Q .non H', rt := Q } σ H', rt := Q }) z, h0 f, hc, h⟩
end
end G

end
section
namespace G
open PySem PySem.Spec L2
open PyProof.Rows (envOfC)
variable [Tb]
def tellK (known : List Str) (hs : List (Str × Str)) (fin : Option Str) (th : Sto → Res D) : Sto → Res D := fun s => match th s with
  | .ok d s' => (match fin with
    | some r => .ok (.str r) s'
    | none => .ok d s')
  | .err x s' => if x.cls ∈ known then pickX hs x s' else .bad
  | .bad => .bad
def eLamK (known : List Str) (hs : List (Str × Str)) (fin : Option Str) (f : E) : E := fun env s => tellK known hs fin (f env) s
/-- the classes' names, told at the written part -/
structure Clss (K : PySem.W.Frag) (mg : Str → Option Value) (known : List Str) (hs : List (Str × Str)) (hsA : List (Addr × Str)) : Prop where
  at_ : hsA = hs.map fun p => (He.ga K p.1, p.2)
  exm : ∀ y ∈ known, ∀ p ∈ hs, ∀ C, mg y = some (.ref C) → PySem.W.exmOne K (.ref C) (.ref (He.ga K p.1)) = some (decide (y = p.1))
section
variable {K : PySem.W.Frag} {mg : Str → Option Value} {m m' : WM} {s s' : Sto} {H H1 H' : Hp} {Q : VK}
theorem ext_stp (e : LamX.ExtN H H1) : Stp m H m H1 :=
  ⟨⟨[], by simp⟩, ⟨[], by simp⟩, rfl, fun a xs h => e a _ h (fun ps z => by cases z), fun a xs h _ => e a _ h (fun ps z => by cases z), fun a o u h => e a _ h (fun ps z => by cases z), fun a h o q => by
    by_cases hq : ∃ ps, o = .tbl ps
    · exact hq
    · exact h o (e a o q fun ps z => hq ⟨ps, z⟩)⟩
theorem Sim.ext (S : Sim K mg m s H) (e : LamX.ExtN H H1) (hT : LamX.Tabs (Tb.T K) H1) : Sim K mg m s H1 := by
  have st : Stp m H m H1 := ext_stp e
  refine ⟨S.cl, S.nd, fun n a xs e1 e2 => ?_, fun a h => ⟨(S.al a h).1, fun z => (S.al a h).2 (st.dom a z)⟩, S.ol, fun n p o e1 e2 => ?_, S.on, hT⟩
  · obtain ⟨h0, hz, vs, h1, h2⟩ := S.ce n a xs e1 e2
    exact ⟨h0, hz, vs, e _ _ h1 (fun ps z => by cases z), RVs.mono st.wk _ _ h2⟩
  · obtain ⟨C, fs, h0, h1, h2⟩ := S.ob n p o e1 e2
    exact ⟨C, fs, h0, e _ _ h1 (fun ps z => by cases z), FsR.mono st.wk h2⟩
theorem pick_chain {known : List Str} {x : Xn} {C : Addr} {dx : Option Addr} {fr : Bool} {H0 : Hp} {W : XK} (hk : x.cls ∈ known) (hm : mg x.cls = some (.ref C)) (S : Sim K mg m' s' H') (st : Stp m H m' H') (ph : m'.phi = m.phi) : ∀ {hs : List (Str × Str)}, (∀ y ∈ known, ∀ p ∈ hs, ∀ C, mg y = some (.ref C) → PySem.W.exmOne K (.ref C) (.ref (He.ga K p.1)) = some (decide (y = p.1))) →
    KontG K mg (RD K mg fr H0) W m H (pickX hs x s') Q → chainE K Q (hs.map fun p => (He.ga K p.1, p.2)) (.ref C) dx H'
  | [], _, k => k.elim
  | (n, r) :: l, hE, k => by
    refine ⟨decide (x.cls = n), hE _ hk (n, r) (List.mem_cons_self ..) C hm, fun hb => ?_, fun hb => ?_⟩
    · have e := of_decide_eq_true hb
      unfold pickX at k
      rw [if_pos e] at k
      exact k (.str r) m' H' st ph S ⟨RV.str, fun _ _ _ z => nomatch z⟩
    · have e := of_decide_eq_false hb
      unfold pickX at k
      rw [if_neg e] at k
      exact pick_chain hk hm S st ph (fun y hy p hp => hE y hy p (List.mem_cons_of_mem _ hp)) k
end
section
variable {X : Cx} {W : WX} {fr fr2 : Bool} {fb : E}
/-- x(lambda: body) -/
theorem se_lam {known : List Str} {hs : List (Str × Str)} {hsA : List (Addr × Str)} {fin : Option Str} {x a : Str} {g c P : Addr} {k : Nat} {pg : Arguments} {bg : List Stmt} {sg : Scope} {dV kV doc pm cdv ct oc : Value} {an od : Option Addr} {osl : Array (Option Value)} {Ng : List Str}
    {params : Arguments} {body : Expr} {scope : Scope} {p lpos pos : Pos} (hC : Clss X.K X.mg known hs hsA) (hg : Gl X x) (hm : X.mg x = some (.ref g)) (hk : PySem.W.keepIn X.K (.ref g) = true)
    (lk : X.K.lookup g = some ⟨oc, od, .func (PySem.W.fnOf x x pg bg sg dV kV doc pm an cdv ct), osl⟩) (hcg : PySem.W.codeIn X.K cdv x = true) (hb : L2.Binds X.K (PySem.W.fnOf x x pg bg sg dV kV doc pm an cdv ct) [a] []) (Sg : FnScope Ng [a] sg) (hNg : Ng[0]? = some a) (hva : Vis sg a)
    (hG : LamX.GivesTo X Ng x sg g cdv bg a (X.env.qual ++ "<lambda>") (TTx X.K hsA fin))
    (TB : LamX.TabB X.base X.mg c P) (hcode : X.env.code = .ref c) (hmT : (P, X.env.qual ++ "<lambda>") ∈ Tb.T X.K) (hu : ∀ p ∈ Tb.T X.K, p.1 = P → p.2 = X.env.qual ++ "<lambda>") (hr : Room (k + 2) X.A) (L : LamX.LamS X.env.scope scope) (hdef : defaultsOf params X.env = ([], []))
    (hbind : ∀ (q : Str) (cl : List (Str × Addr)) (pm cv ctv : Value), bindArgs (PySem.W.kla_fn "<lambda>" q params body scope cl pm cv ctv) ⟨[], []⟩ = pure [])
    (hbody : ∀ (A : Around) (outer : List PySem.Env) (s : Shared) (H : Hp) (E : XK) (f c' : Addr), Room k (A.deeper (LamX.lamEnv X scope s.heap.objs.size f c')) → SE (LamX.lamCx X A outer s H E scope f c') (fun c d _ H => E c d H) fr body fb)
    (hdb : (x == ("__debug__" : Str)) = false := by decide) (hd : (a == ("__debug__" : Str)) = false := by decide) (hcd : (a == ("__classdict__" : Str)) = false := by decide) :
    SE X W false (.Call (.Name x p) [.Lambda params body scope lpos] [] pos) (eLamK known hs fin fb) := by
  refine PE.imp (LamX.pe_lamcall (T := Tb.T X.K) (t := fun E => tE X.K X.mg (fun c d _ H => E c d H) fr fb) hg hm hk lk hcg hb Sg hNg hva hG TB hcode hmT hu hr L hdef hbind hbody hdb hd hcd) fun σ H Q ⟨m, env, s, S, Er, k⟩ => ⟨S.tb, fun H1 eN hT => ?_⟩
  have st : Stp m H m H1 := ext_stp eN
  have S1 : Sim X.K X.mg m s H1 := S.ext eN hT
  refine ⟨m, env, s, S1, Er.mono st.wk, ?_⟩
  have k1 : KontG X.K X.mg (RD X.K X.mg false H) (fun c d H' => W c d σ H') m H (tellK known hs fin (fb env) s) Q := k
  unfold tellK at k1
  cases q : fb env s with
  | bad => rw [q] at k1; exact k1.elim
  | ok d s' =>
    rw [q] at k1
    intro v m' H' st' ph' S' rd
    cases fin with
    | none => exact k1 v m' H' (st.trans st') ph' S' ⟨rd.1, fun z => nomatch z⟩
    | some r => exact k1 (.str r) m' H' (st.trans st') ph' S' ⟨RV.str, fun z => nomatch z⟩
  | err x s' =>
    rw [q] at k1
    intro cls dx m' H' st' ph' S' ex
    obtain ⟨⟨C, e1, e2⟩, _⟩ := ex
    subst e1
    simp only at k1
    split at k1
    · rename_i hkn
      have := pick_chain (dx := dx) hkn e2 S' (st.trans st') ph' hC.exm k1
      rw [hC.at_]
      cases fin with
      | none => exact this
      | some r => exact this
    · exact k1.elim
end
end G

end
section
namespace G
open PySem PySem.Spec L2
open PyProof.Rows (envOfC)
variable [Tb]
section
variable {P : Program} {w : World} {K : PySem.W.Frag} {mg : Str → Option Value} {base : Heap} {j k n : Nat} {x : Str} {fr : Bool} {F : Fun1}
theorem Cal.mono (c : Cal P w K mg base j x n fr F) (h : j ≤ k) : Cal P w K mg base k x n fr F := by
  obtain ⟨f, fd, ps, ok, r⟩ := c
  exact ⟨f, fd, ps, ok.mono h, r⟩
theorem Cal.weak (c : Cal P w K mg base k x n fr F) : Cal P w K mg base k x n false F := by
  obtain ⟨f, fd, ps, ok, r⟩ := c
  exact ⟨f, fd, ps, ok.imp fun vs H Q E ⟨m, ds, s, S, rv, hl, kk⟩ => ⟨m, ds, s, S, rv, hl, kk.move Stp.refl rfl fun _ _ _ _ _ z => ⟨z.1, fun q => nomatch q⟩⟩, r⟩
theorem calT {tbl : List (Str × Fun1)} (h : ∀ p ∈ tbl, Cal P w K mg base k p.1 n fr p.2) (y : Str) (F : Fun1) (e : tbl.lookup y = some F) : Cal P w K mg base k y n fr F := h (y, F) (PySem.mem_of_lookup e)
end
/-- where lambdas are made: the def's code object, its table -/
structure LamAt (K : PySem.W.Frag) (mg : Str → Option Value) (base : Heap) (q : Str) (cdv : Value) (c P : Addr) : Prop where
  code : cdv = .ref c
  tab : LamX.TabB base mg c P
  mem : (P, q) ∈ Tb.T K
  uni : ∀ p ∈ Tb.T K, p.1 = P → p.2 = q
section
variable {fr : Bool} {n k nl : Nat} {K : PySem.W.Frag} {mg : Str → Option Value} {m : WM} {H : Hp} {E : XK} {Q : VK} {g : SM} {ds : List D} {s0 : Sto}
theorem endF (kk : KontG K mg (RD K mg fr H) E m H (defF nl g ds s0) Q) : KontS K mg (fun c d _ H => E c d H) fr false m H (g (startE nl ds) s0) { nx := fun _ H' => Q .non H', rt := Q } := by
  have kk' : KontG K mg (RD K mg fr H) E m H (match g (startE nl ds) s0 with | .ok (.rt d) _ s' => .ok d s' | .ok .nx _ s' => .ok .non s' | .err x _ s' => .err x s' | _ => .bad) Q := kk
  revert kk'
  cases g (startE nl ds) s0 with
  | ok fl env' s' =>
    cases fl with
    | rt d => exact fun k m' σ' H' x1 x2 x3 x4 v x5 => k v m' H' x1 (x2 rfl) x3 x5
    | nx => exact fun k m' σ' H' x1 x2 x3 x4 => k .non m' H' x1 (x2 rfl) x3 ⟨RV.non, fun _ _ _ z => nomatch z⟩
    | bk => exact fun k => k.elim
    | ct => exact fun k => k.elim
  | err x env' s' => exact fun k c dx m' σ' H' x1 x2 x3 x4 x5 => k c dx m' H' x1 (x2 rfl) x3 x5
  | bad => exact fun k => k.elim
theorem endC (S0 : Sim K mg m s0 H) (kk : KontG K mg (RD K mg false H) E m H (defC nl g ds s0) Q) : KontS K mg (fun c d _ H => E c d H) false true m H (g (startE nl ds) s0) { nx := fun _ H' => Q .non H', rt := Q } := by
  have kk' : KontG K mg (RD K mg false H) E m H (match g (startE nl ds) s0 with | .ok (.rt d) _ s' => .ok (fz s0.cel.length s'.cel d) (cut s0.cel.length s') | .ok .nx _ s' => .ok .non (cut s0.cel.length s') | .err x _ s' => .err x (cut s0.cel.length s') | _ => .bad) Q := kk
  revert kk'
  cases g (startE nl ds) s0 with
  | ok fl env' s' =>
    cases fl with
    | rt d =>
      intro k m' σ' H' x1 x2 x3 x4 v x5
      obtain ⟨t, e, ht⟩ := x1.phi
      exact k v { m' with phi := m.phi } H' x1.cut rfl (x3.cut e S0.cl) ⟨RV.fz x3 e S0.cl d v x5.1, fun z => nomatch z⟩
    | nx =>
      intro k m' σ' H' x1 x2 x3 x4
      obtain ⟨t, e, ht⟩ := x1.phi
      exact k .non { m' with phi := m.phi } H' x1.cut rfl (x3.cut e S0.cl) ⟨RV.non, fun z => nomatch z⟩
    | bk => exact fun k => k.elim
    | ct => exact fun k => k.elim
  | err x env' s' =>
    intro k c dx m' σ' H' x1 x2 x3 x4 x5
    obtain ⟨t, e, ht⟩ := x1.phi
    exact k c dx { m' with phi := m.phi } H' x1.cut rfl (x3.cut e S0.cl) x5
  | bad => exact fun k => k.elim
end
section
variable {fr : Bool} {n k : Nat} {P : Program} {w : World} {K : PySem.W.Frag} {mg : Str → Option Value} {base : Heap} {x qual q : Str} {params : Arguments} {body : List Stmt} {scope : Scope} {f : Addr} {fd : FuncData} {N ps : List Str} {g : SM} {c Pt : Addr}
/-- a def that makes lambdas -/
theorem def_okL (F : FunD K x qual params body scope [] [] f fd) (L : LamAt K mg base q fd.code c Pt) (S : FnScope N ps scope) (hn : ps.length = n)
    (hbody : ∀ (cdv : Value) (A : Around) (outer : List PySem.Env) (s : Shared) (H : Hp) (E : XK), LamAt K mg base q cdv c Pt → Room k (A.deeper (envOfC qual scope s.heap.objs.size f cdv)) → SSs (cxOf (L2.CX P w) P w K mg base N qual scope f cdv A outer s H E) (fun c d _ H => E c d H) fr false body g) :
    FnOk P w K mg base (L2.CX P w) (k + 1) f fd ps (spD K mg n fr (defF N.length g)) := by
  obtain ⟨oc, od, dV, kV, doc, pm, an, cdv, ct, osl, rfl, lk, hcd, d1, d2⟩ := F.ex
  refine fn_of lk hcd S (fun vs H Q E ⟨m, ds, s, _, r, hl, _⟩ => by rw [r.length, hl, hn]) fun A outer s H vs Q E hr hsp => ⟨_, hbody cdv A outer s H E L hr, ?_⟩
  obtain ⟨m, ds, s0, S0, r, hl, kk⟩ := hsp
  exact ⟨m, _, s0, S0, startE_ok r, endF kk⟩
theorem def_okLC (F : FunD K x qual params body scope [] [] f fd) (L : LamAt K mg base q fd.code c Pt) (S : FnScope N ps scope) (hn : ps.length = n)
    (hbody : ∀ (cdv : Value) (A : Around) (outer : List PySem.Env) (s : Shared) (H : Hp) (E : XK), LamAt K mg base q cdv c Pt → Room k (A.deeper (envOfC qual scope s.heap.objs.size f cdv)) → SSs (cxOf (L2.CX P w) P w K mg base N qual scope f cdv A outer s H E) (fun c d _ H => E c d H) false true body g) :
    FnOk P w K mg base (L2.CX P w) (k + 1) f fd ps (spD K mg n false (defC N.length g)) := by
  obtain ⟨oc, od, dV, kV, doc, pm, an, cdv, ct, osl, rfl, lk, hcd, d1, d2⟩ := F.ex
  refine fn_of lk hcd S (fun vs H Q E ⟨m, ds, s, _, r, hl, _⟩ => by rw [r.length, hl, hn]) fun A outer s H vs Q E hr hsp => ⟨_, hbody cdv A outer s H E L hr, ?_⟩
  obtain ⟨m, ds, s0, S0, r, hl, kk⟩ := hsp
  exact ⟨m, _, s0, S0, startE_ok r, endC S0 kk⟩
end
section
variable {X : Cx} {W : WX} {fr fr2 : Bool} {fb : E}
/-- g(lambda: body), g a teller -/
theorem se_lamF {known : List Str} {hs : List (Str × Str)} {hsA : List (Addr × Str)} {fin : Option Str} {x a q : Str} {c P : Addr} {k : Nat} {pg : Arguments} {bg : List Stmt} {sg : Scope} {Ng : List Str}
    {params : Arguments} {body : Expr} {scope : Scope} {p lpos pos : Pos} (hC : Clss X.K X.mg known hs hsA) (hdf : ∃ f fd, FunD X.K x x pg bg sg [] [] f fd ∧ X.mg x = some (.ref f)) (hb : ∀ {f fd}, FunD X.K x x pg bg sg [] [] f fd → Binds X.K fd [a] []) (Sg : FnScope Ng [a] sg) (hNg : Ng[0]? = some a) (hva : Vis sg a)
    (hq : X.env.qual ++ "<lambda>" = q) (hG : ∀ g cdv, LamX.GivesTo X Ng x sg g cdv bg a q (TTx X.K hsA fin)) (L : LamAt X.K X.mg X.base q X.env.code c P) (hg : Gl X x) (hr : Room (k + 2) X.A) (Ls : LamX.LamS X.env.scope scope) (hdef : defaultsOf params X.env = ([], []))
    (hbind : ∀ (q : Str) (cl : List (Str × Addr)) (pm cv ctv : Value), bindArgs (PySem.W.kla_fn "<lambda>" q params body scope cl pm cv ctv) ⟨[], []⟩ = pure [])
    (hbody : ∀ (A : Around) (outer : List PySem.Env) (s : Shared) (H : Hp) (E : XK) (f c' : Addr), Room k (A.deeper (LamX.lamEnv X scope s.heap.objs.size f c')) → SE (LamX.lamCx X A outer s H E scope f c') (fun c d _ H => E c d H) fr body fb)
    (hdb : (x == ("__debug__" : Str)) = false := by decide) (hd : (a == ("__debug__" : Str)) = false := by decide) (hcd : (a == ("__classdict__" : Str)) = false := by decide) :
    SE X W false (.Call (.Name x p) [.Lambda params body scope lpos] [] pos) (eLamK known hs fin fb) := by
  obtain ⟨f, fd, F, hm⟩ := hdf
  have hb' := hb F
  have hk := F.kp
  obtain ⟨oc, od, dV, kV, doc, pm, an, cdv, ct, osl, e, lk, hcg, d1, d2⟩ := F.ex
  subst e hq
  exact se_lam hC hg hm hk lk hcg hb' Sg hNg hva (hG f cdv) L.tab L.code L.mem L.uni hr Ls hdef hbind hbody hdb hd hcd
end
end G

end
section
namespace G
open PySem PySem.Spec L2
open PyProof.Rows (envOfC)
variable [Tb]
def dIsB : G2 := fun _ x y => match x, y with
  | .bl a, .bl b => some (.bl (decide (a = b)))
  | _, _ => none
section
variable {K : PySem.W.Frag} {mg : Str → Option Value}
theorem ok_isB : OkOp K mg true (fun x y H Q => ∃ a b, x = .bl a ∧ y = .bl b ∧ Q (.bl (decide (a = b))) H) dIsB := by
  intro m s H x y dx dy d Q S rx ry e k
  unfold dIsB at e
  split at e
  · cases e
    exact ⟨_, _, rx.bl', ry.bl', k _ _ Grw.refl RV.bl fun _ _ z => nomatch z⟩
  · cases e
end
section
variable {P : Program} {w : World} {K : PySem.W.Frag} {mg : Str → Option Value} {base : Heap} {k n : Nat}
theorem calT_nil : ∀ p ∈ ([] : List (Str × Fun1)), Cal P w K mg base k p.1 n false p.2 := fun _ h => nomatch h
theorem calT_cons {x : Str} {F : Fun1} {l : List (Str × Fun1)} (c : Cal P w K mg base k x n false F) (r : ∀ p ∈ l, Cal P w K mg base k p.1 n false p.2) : ∀ p ∈ (x, F) :: l, Cal P w K mg base k p.1 n false p.2 := fun p h => by
  rcases List.mem_cons.mp h with e | h
  · rw [e]; exact c
  · exact r p h
end
end G
namespace G
open PySem PySem.Spec L2
variable [Tb]
theorem nodup_uni {α β : Type} {f : α → β} : ∀ {l : List α}, (l.map f).Nodup → ∀ p ∈ l, ∀ q ∈ l, f p = f q → p = q
  | [], _, p, hp, _, _, _ => nomatch hp
  | x :: l, h, p, hp, q, hq, e => by
    rw [List.map_cons, List.nodup_cons] at h
    rcases List.mem_cons.mp hp with e1 | hp' <;> rcases List.mem_cons.mp hq with e2 | hq'
    · rw [e1, e2]
    · exact absurd (List.mem_map.mpr ⟨q, hq', by rw [← e, e1]⟩) h.1
    · exact absurd (List.mem_map.mpr ⟨p, hp', by rw [e, e2]⟩) h.1
    · exact nodup_uni h.2 p hp' q hq' e
/-- the tables that the law's lambdas write at -/
def tabT (tf : List (He.Defn × Str)) (K : PySem.W.Frag) : List (Addr × Str) := tf.map fun p => ((He.cT K p.1).2, p.2)
def tabEx (tf : List (He.Defn × Str)) (K : PySem.W.Frag) : Bool := decide ((tf.map fun p => (He.cT K p.1).2).Nodup)
theorem lamAt_of {tf : List (He.Defn × Str)} {K : PySem.W.Frag} {mg : Str → Option Value} {base : Heap} {x q : Str} {params : Arguments} {body : List Stmt} {scope : Scope} {p : He.Defn} {fd : FuncData} (hT : Tb.T K = tabT tf K) (hn : tabEx tf K = true)
    (F : FunD K x x params body scope [] [] (He.fAd K p) fd) (hp : (p, q) ∈ tf) (B : ∀ c ∈ tf.map (fun p => He.cT K p.1), LamX.TabB base mg c.1 c.2) : LamAt K mg base q fd.code (He.cT K p).1 (He.cT K p).2 := by
  obtain ⟨oc, od, dV, kV, doc, pm, an, cdv, ct, osl, e, lk, hcd, _, _⟩ := F.ex
  obtain ⟨c, ec⟩ := He.codeIn_ref hcd
  have e2 : fd.code = .ref c := by rw [e]; exact ec
  have e3 := He.codeOf_eq (p := p) lk e2
  refine ⟨by rw [e2]; show Value.ref c = Value.ref (He.codeOf K p); rw [e3], B _ (List.mem_map.mpr ⟨_, hp, rfl⟩), ?_, fun z hz ez => ?_⟩
  · rw [hT]
    exact List.mem_map.mpr ⟨_, hp, rfl⟩
  · rw [hT] at hz
    obtain ⟨r, hr, er⟩ := List.mem_map.mp hz
    have := nodup_uni (f := fun p : He.Defn × Str => (He.cT K p.1).2) (of_decide_eq_true hn) r hr _ hp (by rw [← er] at ez; exact ez)
    rw [← er, this]
theorem tabs_nil {tf : List (He.Defn × Str)} {K : PySem.W.Frag} {H : Hp} (hT : Tb.T K = tabT tf K) (h : ∀ c ∈ tf.map (fun p => He.cT K p.1), H c.2 = some (.tbl #[])) : LamX.Tabs (Tb.T K) H := by
  rw [hT]
  intro z hz
  obtain ⟨r, hr, er⟩ := List.mem_map.mp hz
  rw [← er]
  exact LamX.TabS.nil (h _ (List.mem_map.mpr ⟨r, hr, rfl⟩))
end G
namespace G
open PySem PySem.Spec L2
theorem cx_no {P : Program} (w : World) (H : Hp) (s : Shared) (e : Value) (s' : Shared) (h : L2.CX P w [] H s (fun _ _ _ => False) e s') : False := by
  unfold L2.CX at h
  obtain ⟨_, _, _, _, _, h⟩ := h
  exact h.2.2.2.2.2.2.2
variable [Tb]
/-- the law at the head's heap -/
theorem lawAt {l : PySem.W.OpenLaw} {w : World} {K : PySem.W.Frag} {k : Nat} {mg : Str → Option Value} {fa : Addr} {h : Heap} {tf : List (He.Defn × Str)} {fas : List He.Fa} {fns : List He.DefD} {fd : FuncData} {fr : Bool} {F : Fun1} (hT : Tb.T K = tabT tf K) (KX : K.In h) (c : He.SaysX fas fns [] (tf.map (·.1)) (tabEx tf) w h K)
    (hb : ∀ (s : Shared) (u : Value), BindsTo s fd ⟨[u], []⟩ [("script", u)]) (hF : ∀ ns : List Int, ns.length ≤ 63 → ∃ s, F [.scr ns] {} = .ok (.bl true) s)
    (hf : ∀ base : Heap, K.In base → base.Ns mainGlobals mg → (∀ c ∈ tf.map (fun p => He.cT K p.1), LamX.TabB base mg c.1 c.2) → FnOk l.prog w K mg base (L2.CX l.prog w) k fa fd ["script"] (spD K mg 1 fr F)) : LamX.LawAtS l w K (L2.CX l.prog w) k 63 "script" mg fa h := by
  have go : ∀ p ∈ tf.map (fun p => He.cT K p.1), ∃ r ∈ tf.map (·.1), p = He.cT K r := fun p hp => by
    obtain ⟨r, hr, er⟩ := List.mem_map.mp hp
    exact ⟨r.1, List.mem_map.mpr ⟨r, hr, rfl⟩, er.symm⟩
  refine ⟨fd, tf.map (fun p => He.cT K p.1), spD K mg 1 fr F, fun p hp => ?_, fun p hp => ?_, fun p hp => ?_, hb, fun H a ns hl _ hH hS => sp_of hF H a ns hl (tabs_nil hT hH) hS, hf⟩
  · obtain ⟨r, hr, e⟩ := go p hp
    rw [e]; exact c.empty r hr
  · obtain ⟨r, hr, e⟩ := go p hp
    rw [e]; exact c.out r hr
  · obtain ⟨r, hr, e⟩ := go p hp
    rw [e]; exact PySem.W.codeHd_of_K KX (c.hd r hr)
end G

end
section
namespace G
open PySem PySem.Spec L2
/-! ### the semantic text, applied -/
@[simp] theorem eVar_0 {a : D} {r : Env} {s : Sto} : eVar 0 (some a :: r) s = .ok a s := rfl
@[simp] theorem eVar_s {a : Option D} {r : Env} {s : Sto} {i : Nat} : eVar (i + 1) (a :: r) s = eVar i r s := rfl
@[simp] theorem eC_ap {d : D} {env : Env} {s : Sto} : eC d env s = .ok d s := rfl
@[simp] theorem eOp_ap {g : G2} {a b : E} {env : Env} {s : Sto} : eOp g a b env s = (a env s).bind fun x s1 => (b env s1).bind fun y s2 => Res.of s2 (g s2 x y) := rfl
@[simp] theorem eUn_ap {g} {a : E} {env : Env} {s : Sto} : eUn g a env s = (a env s).bind fun x s1 => Res.of s1 (g s1 x) := rfl
@[simp] theorem eFn_ap {g : GL} {a : EL} {env : Env} {s : Sto} : eFn g a env s = (a env s).bind fun xs s1 => Res.of s1 (g s1 xs) := rfl
@[simp] theorem lNil_ap {env : Env} {s : Sto} : lNil env s = .ok [] s := rfl
@[simp] theorem lCons_ap {a : E} {r : EL} {env : Env} {s : Sto} : lCons a r env s = (a env s).bind fun x s1 => (r env s1).bind fun xs s2 => .ok (x :: xs) s2 := rfl
@[simp] theorem asB_bl {b : Bool} : asB (.bl b) = some b := rfl
@[simp] theorem bVal_ap {a : E} {env : Env} {s : Sto} : bVal a env s = (a env s).bind fun x s1 => Res.of s1 (asB x) := rfl
@[simp] theorem bNot_ap {a : EB} {env : Env} {s : Sto} : bNot a env s = (a env s).bind fun x s1 => .ok (!x) s1 := rfl
@[simp] theorem bYes_ap {env : Env} {s : Sto} : bYes env s = .ok true s := rfl
@[simp] theorem bAnd_ap {a b : EB} {env : Env} {s : Sto} : bAnd a b env s = (a env s).bind fun x s1 => if x = true then b env s1 else .ok false s1 := rfl
@[simp] theorem bOr_ap {a b : EB} {env : Env} {s : Sto} : bOr a b env s = (a env s).bind fun x s1 => if x = true then .ok true s1 else b env s1 := rfl
def andK (x : D) (r : Res D) (s : Sto) : Res D := match x with
  | .bl b => if b = true then r else .ok (.bl false) s
  | _ => .bad
def orK (x : D) (r : Res D) (s : Sto) : Res D := match x with
  | .bl b => if b = true then .ok (.bl true) s else r
  | _ => .bad
@[simp] theorem andK_bl {b : Bool} {r : Res D} {s : Sto} : andK (.bl b) r s = if b = true then r else .ok (.bl false) s := rfl
@[simp] theorem orK_bl {b : Bool} {r : Res D} {s : Sto} : orK (.bl b) r s = if b = true then .ok (.bl true) s else r := rfl
@[simp] theorem eAnd_ap {a b : E} {env : Env} {s : Sto} : eAnd a b env s = (a env s).bind fun x s1 => andK x (b env s1) s1 := by
  unfold eAnd
  congr 1
  funext x s1
  cases x with
  | bl c => cases c <;> rfl
  | _ => rfl
@[simp] theorem eOr_ap {a b : E} {env : Env} {s : Sto} : eOr a b env s = (a env s).bind fun x s1 => orK x (b env s1) s1 := by
  unfold eOr
  congr 1
  funext x s1
  cases x with
  | bl c => cases c <;> rfl
  | _ => rfl
def notK (x : D) (s : Sto) : Res D := match x with
  | .bl c => .ok (.bl (!c)) s
  | _ => .bad
@[simp] theorem notK_bl {c : Bool} {s : Sto} : notK (.bl c) s = .ok (.bl (!c)) s := rfl
@[simp] theorem eNot_ap {a : E} {env : Env} {s : Sto} : eNot a env s = (a env s).bind fun x s1 => notK x s1 := rfl
@[simp] theorem eNotT_ap {a : E} {env : Env} {s : Sto} : eNotT a env s = (a env s).bind fun x s1 => Res.of s1 ((truD x).map fun b => .bl (!b)) := rfl
@[simp] theorem eIf_ap {c : EB} {a b : E} {env : Env} {s : Sto} : eIf c a b env s = (c env s).bind fun x s1 => if x = true then a env s1 else b env s1 := rfl
@[simp] theorem eTup_ap {a : EL} {env : Env} {s : Sto} : eTup a env s = (a env s).bind fun xs s1 => .ok (.tup xs) s1 := rfl
@[simp] theorem eLst_ap {a : EL} {env : Env} {s : Sto} : eLst a env s = (a env s).bind fun xs s1 => .ok (.lst xs) s1 := rfl
def chK (g' : G2) (z y : D) (c : Sto → Res D) (s : Sto) : Res D := match z with
  | .bl b => if b = true then (c s).bind fun w s4 => Res.of s4 (g' s4 y w) else .ok (.bl false) s
  | _ => .bad
@[simp] theorem chK_bl {g' : G2} {b : Bool} {y : D} {c : Sto → Res D} {s : Sto} : chK g' (.bl b) y c s = if b = true then (c s).bind fun w s4 => Res.of s4 (g' s4 y w) else .ok (.bl false) s := rfl
@[simp] theorem eChain_ap {g g' : G2} {a b c : E} {env : Env} {s : Sto} : eChain g g' a b c env s = (a env s).bind fun x s1 => (b env s1).bind fun y s2 => (Res.of s2 (g s2 x y)).bind fun z s3 => chK g' z y (c env) s3 := by
  unfold eChain
  congr 1
  funext x s1
  congr 1
  funext y s2
  congr 1
  funext z s3
  cases z with
  | bl b => cases b <;> rfl
  | _ => rfl
@[simp] theorem eCall_ap {F : Fun1} {a : EL} {env : Env} {s : Sto} : eCall F a env s = (a env s).bind F := rfl
@[simp] theorem eLc_ap {own : List Nat} {p : Pat} {it : EL} {t : EB} {f : E} {env : Env} {s : Sto} : eLc own p it t f env s = (it env s).bind fun ds s1 => (lcL p t f (wipeE env own) ds s1).bind fun ys s2 => .ok (.lst ys) s2 := rfl
@[simp] theorem iSeq_ap {fa : E} {env : Env} {s : Sto} : iSeq fa env s = (fa env s).bind fun d s1 => Res.of s1 (seqOf d) := rfl
@[simp] theorem iOf_ap {g : List D → Option (List D)} {gl : EL} {env : Env} {s : Sto} : iOf g gl env s = (gl env s).bind fun ds s1 => Res.of s1 (g ds) := rfl
@[simp] theorem eLstR_ap {g : List D → Option (List D)} {gl : EL} {env : Env} {s : Sto} : eLstR g gl env s = (gl env s).bind fun ds s1 => (Res.of s1 (g ds)).bind fun l s2 => .ok (.lst l) s2 := rfl
@[simp] theorem eSl_ap {fa : E} {lo hi : EO} {env : Env} {s : Sto} : eSl fa lo hi env s = (fa env s).bind fun x s1 => (lo env s1).bind fun l s2 => (hi env s2).bind fun h s3 => Res.of s3 (gSl s3 x l h) := rfl
@[simp] theorem oNone_ap {env : Env} {s : Sto} : oNone env s = .ok none s := rfl
@[simp] theorem oSome_ap {f : E} {env : Env} {s : Sto} : oSome f env s = (f env s).bind fun d s1 => Res.of s1 ((asI d).map some) := rfl
@[simp] theorem asI_int {i : Int} : asI (.int i) = some i := rfl
@[simp] theorem seqOf_tup {l : List D} : seqOf (.tup l) = some l := rfl
@[simp] theorem seqOf_lst {l : List D} : seqOf (.lst l) = some l := rfl
@[simp] theorem gR1_int {n : Int} : gR1 [.int n] = (if -100000 ≤ n ∧ n ≤ 100000 then some (rngD 0 n.toNat) else none) := rfl
/-! statements -/
@[simp] theorem sSeq_ap {g h : SM} {env : Env} {s : Sto} : sSeq g h env s = (g env s).seq h := rfl
@[simp] theorem sNx_ap {env : Env} {s : Sto} : sNx env s = .ok .nx env s := rfl
@[simp] theorem sBk_ap {env : Env} {s : Sto} : sBk env s = .ok .bk env s := rfl
@[simp] theorem sCt_ap {env : Env} {s : Sto} : sCt env s = .ok .ct env s := rfl
@[simp] theorem sRet_ap {f : E} {env : Env} {s : Sto} : sRet f env s = (f env s).st env fun d s1 => .ok (.rt d) env s1 := rfl
@[simp] theorem sRetN_ap {env : Env} {s : Sto} : sRetN env s = .ok (.rt .non) env s := rfl
@[simp] theorem sDrop_ap {f : E} {env : Env} {s : Sto} : sDrop f env s = (f env s).st env fun _ s1 => .ok .nx env s1 := rfl
@[simp] theorem sIf_ap {c : EB} {a b : SM} {env : Env} {s : Sto} : sIf c a b env s = (c env s).st env fun x s1 => if x = true then a env s1 else b env s1 := rfl
@[simp] theorem sSet_ap {i : Nat} {f : E} {env : Env} {s : Sto} : sSet i f env s = (f env s).st env fun d s1 => .ok .nx (env.set i (some d)) s1 := rfl
@[simp] theorem sPar_ap {is : List Nat} {g : EL} {env : Env} {s : Sto} : sPar is g env s = (g env s).st env fun ds s1 => .ok .nx (setsE is ds env) s1 := rfl
@[simp] theorem sFor_ap {p : Pat} {it : EL} {body : SM} {env : Env} {s : Sto} : sFor p it body env s = (it env s).st env fun ds s1 => forL p body ds env s1 := rfl
@[simp] theorem sWhile_ap {c : EB} {body : SM} {fu : Env → Nat} {env : Env} {s : Sto} : sWhile c body fu env s = whileN c body (fu env) env s := rfl
@[simp] theorem sRaise_ap {x : Str} {env : Env} {s : Sto} : sRaise x env s = .err { cls := x } env s := rfl
@[simp] theorem setsE_nil {env : Env} : setsE [] [] env = env := rfl
@[simp] theorem setsE_cons {i : Nat} {is : List Nat} {d : D} {ds : List D} {env : Env} : setsE (i :: is) (d :: ds) env = setsE is ds (env.set i (some d)) := rfl
@[simp] theorem wipeE_nil {env : Env} : wipeE env [] = env := rfl
@[simp] theorem wipeE_cons {env : Env} {v : Nat} {vs : List Nat} : wipeE env (v :: vs) = (wipeE env vs).set v none := rfl
def celK (i : Nat) (d : D) (env : Env) (s : Sto) : SRes := match d with
  | .lst l => if pureL l = true then .ok .nx (env.set i (some (.cel s.cel.length))) (newCel s l) else .bad
  | _ => .bad
@[simp] theorem sCel_ap {i : Nat} {f : E} {env : Env} {s : Sto} : sCel i f env s = (f env s).st env fun d s1 => celK i d env s1 := rfl
@[simp] theorem celK_lst {i : Nat} {l : List D} {env : Env} {s : Sto} : celK i (.lst l) env s = if pureL l = true then .ok .nx (env.set i (some (.cel s.cel.length))) (newCel s l) else .bad := rfl
def asgK (o : Option (Env × Sto)) : SRes := match o with
  | some p => .ok .nx p.1 p.2
  | none => .bad
@[simp] theorem asgK_some {p : Env × Sto} : asgK (some p) = .ok .nx p.1 p.2 := rfl
@[simp] theorem sAsg_ap {g : GT} {f : E} {env : Env} {s : Sto} : sAsg g f env s = (f env s).st env fun d s1 => asgK (g d env s1) := by
  unfold sAsg
  congr 1
@[simp] theorem gtName_ap {i : Nat} {d : D} {env : Env} {s : Sto} : gtName i d env s = some (env.set i (some d), s) := rfl
@[simp] theorem gtTup_ap {gs : List GT} {ds : List D} {env : Env} {s : Sto} : gtTup gs (.tup ds) env s = gtTups gs ds env s := rfl
@[simp] theorem gtTups_nil {env : Env} {s : Sto} : gtTups [] [] env s = some (env, s) := rfl
@[simp] theorem gtTups_cons {g : GT} {gs : List GT} {d : D} {ds : List D} {env : Env} {s : Sto} : gtTups (g :: gs) (d :: ds) env s = (g d env s).bind fun p => gtTups gs ds p.1 p.2 := rfl
/-! defs -/
@[simp] theorem startE_ap {nl : Nat} {ds : List D} : startE nl ds = ds.map some ++ List.replicate (nl - ds.length) none := rfl
def finF (r : SRes) : Res D := match r with
  | .ok (.rt d) _ s' => .ok d s'
  | .ok .nx _ s' => .ok .non s'
  | .err x _ s' => .err x s'
  | _ => .bad
@[simp] theorem finF_rt {d : D} {env : Env} {s : Sto} : finF (.ok (.rt d) env s) = .ok d s := rfl
@[simp] theorem finF_nx {env : Env} {s : Sto} : finF (.ok .nx env s) = .ok .non s := rfl
@[simp] theorem finF_err {x : Xn} {env : Env} {s : Sto} : finF (.err x env s) = .err x s := rfl
theorem defF_ap {nl : Nat} {g : SM} {ds : List D} {s : Sto} : defF nl g ds s = finF (g (startE nl ds) s) := rfl
def finC (n : Nat) (r : SRes) : Res D := match r with
  | .ok (.rt d) _ s' => .ok (fz n s'.cel d) (cut n s')
  | .ok .nx _ s' => .ok .non (cut n s')
  | .err x _ s' => .err x (cut n s')
  | _ => .bad
@[simp] theorem finC_rt {n : Nat} {d : D} {env : Env} {s : Sto} : finC n (.ok (.rt d) env s) = .ok (fz n s.cel d) (cut n s) := rfl
@[simp] theorem finC_nx {n : Nat} {env : Env} {s : Sto} : finC n (.ok .nx env s) = .ok .non (cut n s) := rfl
theorem defC_ap {nl : Nat} {g : SM} {ds : List D} {s : Sto} : defC nl g ds s = finC s.cel.length (g (startE nl ds) s) := rfl
/-! operations -/
@[simp] theorem dAdd_ii {s : Sto} {i j : Int} : dAdd s (.int i) (.int j) = some (.int (i + j)) := rfl
@[simp] theorem dSub_ii {s : Sto} {i j : Int} : dSub s (.int i) (.int j) = some (.int (i - j)) := rfl
@[simp] theorem dLt_ii {s : Sto} {i j : Int} : dLt s (.int i) (.int j) = some (.bl (decide (i < j))) := rfl
@[simp] theorem dLe_ii {s : Sto} {i j : Int} : dLe s (.int i) (.int j) = some (.bl (decide (i ≤ j))) := rfl
@[simp] theorem dGt_ii {s : Sto} {i j : Int} : dGt s (.int i) (.int j) = some (.bl (decide (j < i))) := rfl
@[simp] theorem dGe_ii {s : Sto} {i j : Int} : dGe s (.int i) (.int j) = some (.bl (decide (j ≤ i))) := rfl
@[simp] theorem dNeg_i {s : Sto} {i : Int} : dNeg s (.int i) = some (.int (-i)) := rfl
theorem dMul_ii {s : Sto} {i j : Int} (h1 : -(2 ^ 64) < i ∧ i < 2 ^ 64) (h2 : -(2 ^ 64) < j ∧ j < 2 ^ 64) : dMul s (.int i) (.int j) = some (.int (i * j)) := by
  unfold dMul
  simp only [smallI, h1, h2, and_self, decide_true, Bool.and_self, Bool.or_true, Bool.true_or, if_true]
theorem dMod_ii {s : Sto} {i j : Int} (h : 0 < j) : dMod s (.int i) (.int j) = some (.int (i % j)) := by
  unfold dMod dI2c
  simp only [h, decide_true, if_true]
theorem dFdiv_ii {s : Sto} {i j : Int} (h : 0 < j) (h2 : j < 1073741824) : dFdiv s (.int i) (.int j) = some (.int (i / j)) := by
  unfold dFdiv dI2c
  simp only [h, h2, decide_true, Bool.true_or, Bool.and_self, if_true]
theorem log_lt {n : Nat} (h : n < 2 ^ 64) : n.log2 < 9000 := by
  by_cases h0 : n = 0
  · subst h0; decide
  · have := (Nat.log2_lt h0).mpr h
    omega
theorem dFdiv_wide {s : Sto} {i j : Int} (h : 0 < j) (h2 : j < 2 ^ 64) : dFdiv s (.int i) (.int j) = some (.int (i / j)) := by
  unfold dFdiv dI2c
  have : wideI j = true := decide_eq_true (log_lt (by omega))
  simp only [h, this, decide_true, Bool.or_true, Bool.and_self, if_true]
@[simp] theorem gInt_i {s : Sto} {i : Int} : gInt s [.int i] = some (.int i) := rfl
@[simp] theorem gAbs_i {s : Sto} {i : Int} : gAbs s [.int i] = some (.int (if i < 0 then -i else i)) := rfl
@[simp] theorem gMax2_ii {s : Sto} {i j : Int} : gMax2 s [.int i, .int j] = some (.int (if j > i then j else i)) := rfl
@[simp] theorem gMin2_ii {s : Sto} {i j : Int} : gMin2 s [.int i, .int j] = some (.int (if j < i then j else i)) := rfl
@[simp] theorem gLen_tup {s : Sto} {l : List D} : gLen s [.tup l] = some (.int l.length) := rfl
@[simp] theorem gLen_lst {s : Sto} {l : List D} : gLen s [.lst l] = some (.int l.length) := rfl
@[simp] theorem gLen_scr {s : Sto} {l : List Int} : gLen s [.scr l] = some (.int l.length) := rfl
@[simp] theorem gTup_lst {s : Sto} {l : List D} : gTup s [.lst l] = some (.tup l) := rfl
@[simp] theorem gTup_tup {s : Sto} {l : List D} : gTup s [.tup l] = some (.tup l) := rfl
@[simp] theorem gLst_tup {s : Sto} {l : List D} : gLst s [.tup l] = some (.lst l) := rfl
@[simp] theorem gIx_tup {s : Sto} {l : List D} {k : Int} : gIx s (.tup l) (.int k) = atI l k := rfl
@[simp] theorem gIx_lst {s : Sto} {l : List D} {k : Int} : gIx s (.lst l) (.int k) = atI l k := rfl
@[simp] theorem gIx_scr {s : Sto} {l : List Int} {k : Int} : gIx s (.scr l) (.int k) = (atI l k).map .int := rfl
theorem gIx_cel {s : Sto} {n : Nat} {l : List D} {k : Int} (h : s.cel[n]? = some l) : gIx s (.cel n) (.int k) = atI l k := by
  unfold gIx asL
  simp [h]
@[simp] theorem atI_0 {α : Type} {d : α} {l : List α} : atI (d :: l) 0 = some d := by unfold atI ixN; simp
@[simp] theorem atI_1 {α : Type} {d e : α} {l : List α} : atI (d :: e :: l) 1 = some e := by
  unfold atI ixN
  simp
  rw [if_pos (by omega)]
  rfl
@[simp] theorem atI_2 {α : Type} {d e f : α} {l : List α} : atI (d :: e :: f :: l) 2 = some f := by
  unfold atI ixN
  simp
  rw [if_pos (by omega)]
  rfl
@[simp] theorem atI_3 {α : Type} {d e f g : α} {l : List α} : atI (d :: e :: f :: g :: l) 3 = some g := by
  unfold atI ixN
  simp
  rw [if_pos (by omega)]
  rfl
theorem atI_nat {α : Type} {l : List α} {k : Int} (h0 : 0 ≤ k) (h : k < l.length) : atI l k = l[k.toNat]? := by
  unfold atI ixN
  simp [h0, h]
@[simp] theorem deref_int {s : Sto} {i : Int} : deref s (.int i) = .int i := rfl
@[simp] theorem deref_bl {s : Sto} {i : Bool} : deref s (.bl i) = .bl i := rfl
@[simp] theorem deref_str {s : Sto} {i : Str} : deref s (.str i) = .str i := rfl
@[simp] theorem deref_non {s : Sto} : deref s .non = .non := rfl
@[simp] theorem deref_tup {s : Sto} {l : List D} : deref s (.tup l) = .tup l := rfl
@[simp] theorem deref_lst {s : Sto} {l : List D} : deref s (.lst l) = .lst l := rfl
@[simp] theorem okD_int {i : Int} : okD (.int i) = true := by simp [okD, isData, depthD]
@[simp] theorem okD_bl {i : Bool} : okD (.bl i) = true := by simp [okD, isData, depthD]
@[simp] theorem okD_non : okD .non = true := by simp [okD, isData, depthD]
@[simp] theorem okD_tup0 : okD (.tup []) = true := by simp [okD, isData, isDataL, depthD, depthL]
@[simp] theorem okD_lst0 : okD (.lst []) = true := by simp [okD, isData, isDataL, depthD, depthL]
@[simp] theorem deq_ii {i j : Int} : deq (.int i) (.int j) = (i == j) := by simp [deq]
@[simp] theorem deq_ss {i j : Str} : deq (.str i) (.str j) = (i == j) := by simp [deq]
@[simp] theorem deq_bb {i j : Bool} : deq (.bl i) (.bl j) = (i == j) := by simp [deq]
@[simp] theorem deq_tt {i j : List D} : deq (.tup i) (.tup j) = deqL i j := by simp [deq]
@[simp] theorem deq_ll {i j : List D} : deq (.lst i) (.lst j) = deqL i j := by simp [deq]
@[simp] theorem deqL_nn : deqL [] [] = true := by simp [deqL]
@[simp] theorem deqL_cc {x y : D} {i j : List D} : deqL (x :: i) (y :: j) = (deq x y && deqL i j) := by simp [deqL]
@[simp] theorem deqL_cn {x : D} {i : List D} : deqL (x :: i) [] = false := by simp [deqL]
@[simp] theorem deqL_nc {x : D} {i : List D} : deqL [] (x :: i) = false := by simp [deqL]
/-! walks -/
theorem lc_map {f : E} {g : D → D} {env : Env} {i : Nat} {s : Sto} : ∀ {ds : List D}, (∀ d ∈ ds, f (env.set i (some d)) s = .ok (g d) s) → lcL (.nm i) bYes f env ds s = .ok (ds.map g) s
  | [], _ => rfl
  | d :: ds, h => by
    have h1 := h d (List.mem_cons_self ..)
    have h2 := lc_map (ds := ds) fun z hz => h z (List.mem_cons_of_mem _ hz)
    unfold lcL
    simp only [Pat.bind, bYes_ap, h1, h2, Res.bind_ok, List.map_cons]
theorem lc_filter {f : E} {t : EB} {g : D → Bool} {env : Env} {i : Nat} {s : Sto} (hf : ∀ d, f (env.set i (some d)) s = .ok d s) : ∀ {ds : List D}, (∀ d ∈ ds, t (env.set i (some d)) s = .ok (g d) s) → lcL (.nm i) t f env ds s = .ok (ds.filter g) s
  | [], _ => rfl
  | d :: ds, h => by
    have h1 := h d (List.mem_cons_self ..)
    have h2 := lc_filter hf (ds := ds) fun z hz => h z (List.mem_cons_of_mem _ hz)
    unfold lcL
    simp only [Pat.bind, h1]
    cases e : g d
    · rw [List.filter_cons_of_neg (by simp [e])]
      exact h2
    · rw [List.filter_cons_of_pos e]
      simp only [hf, h2, Res.bind_ok]
theorem lc_inv {f : E} {env : Env} {i : Nat} {I : Sto → Prop} {P : D → Prop} : ∀ {ds : List D} {s : Sto}, I s → (∀ d ∈ ds, ∀ s, I s → ∃ y s', f (env.set i (some d)) s = .ok y s' ∧ I s' ∧ P y) → ∃ ys s', lcL (.nm i) bYes f env ds s = .ok ys s' ∧ I s' ∧ ys.length = ds.length ∧ ∀ y ∈ ys, P y
  | [], s, hI, _ => ⟨[], s, rfl, hI, rfl, fun _ z => nomatch z⟩
  | d :: ds, s, hI, h => by
    obtain ⟨y, s1, e1, i1, p1⟩ := h d (List.mem_cons_self ..) s hI
    obtain ⟨ys, s2, e2, i2, l2, p2⟩ := lc_inv (ds := ds) i1 fun z hz => h z (List.mem_cons_of_mem _ hz)
    refine ⟨y :: ys, s2, ?_, i2, by simp [l2], fun z hz => ?_⟩
    · unfold lcL
      simp only [Pat.bind, bYes_ap, e1, e2, Res.bind_ok]
    · rcases List.mem_cons.mp hz with e | hz
      · rw [e]; exact p1
      · exact p2 z hz
theorem for_inv {body : SM} {i : Nat} {I : Env → Sto → Prop} : ∀ {ds : List D} {env : Env} {s : Sto}, I env s → (∀ d ∈ ds, ∀ env s, I env s → ∃ env' s', (body (env.set i (some d)) s = .ok .nx env' s' ∨ body (env.set i (some d)) s = .ok .ct env' s') ∧ I env' s') → ∃ env' s', forL (.nm i) body ds env s = .ok .nx env' s' ∧ I env' s'
  | [], env, s, hI, _ => ⟨env, s, rfl, hI⟩
  | d :: ds, env, s, hI, h => by
    obtain ⟨env1, s1, e1, i1⟩ := h d (List.mem_cons_self ..) env s hI
    obtain ⟨env2, s2, e2, i2⟩ := for_inv (ds := ds) i1 fun z hz => h z (List.mem_cons_of_mem _ hz)
    refine ⟨env2, s2, ?_, i2⟩
    unfold forL
    rcases e1 with e1 | e1 <;> simp only [Pat.bind, e1, e2]
/-- a counted walk: what holds at the start of each turn -/
theorem for_invN {body : SM} {i : Nat} {I : Nat → Env → Sto → Prop} : ∀ {ds : List D} {k : Nat} {env : Env} {s : Sto}, I k env s → (∀ j d, ds[j]? = some d → ∀ env s, I (k + j) env s → ∃ env' s', (body (env.set i (some d)) s = .ok .nx env' s' ∨ body (env.set i (some d)) s = .ok .ct env' s') ∧ I (k + j + 1) env' s') → ∃ env' s', forL (.nm i) body ds env s = .ok .nx env' s' ∧ I (k + ds.length) env' s'
  | [], k, env, s, hI, _ => ⟨env, s, rfl, hI⟩
  | d :: ds, k, env, s, hI, h => by
    obtain ⟨env1, s1, e1, i1⟩ := h 0 d rfl env s hI
    obtain ⟨env2, s2, e2, i2⟩ := for_invN (ds := ds) (k := k + 1) i1 fun j z hz env s hi => by
      have := h (j + 1) z hz env s (by rw [show k + (j + 1) = k + 1 + j by omega]; exact hi)
      rw [show k + 1 + j + 1 = k + (j + 1) + 1 by omega]
      exact this
    refine ⟨env2, s2, ?_, by rw [show k + (d :: ds).length = k + 1 + ds.length by simp; omega]; exact i2⟩
    unfold forL
    rcases e1 with e1 | e1 <;> simp only [Pat.bind, e1, e2]
theorem rngD_len0 (lo : Int) (n : Nat) : (rngD lo n).length = n := by unfold rngD; rw [List.length_map, List.length_range]
theorem rngD_0 {n : Nat} {d : D} (h : d ∈ rngD 0 n) : ∃ i : Nat, i < n ∧ d = .int i := by
  unfold rngD at h
  obtain ⟨i, hi, e⟩ := List.mem_map.mp h
  exact ⟨i, List.mem_range.mp hi, by rw [← e]; simp⟩
@[simp] theorem asBools_map {α : Type} {g : α → Bool} {l : List α} : asBools (l.map fun x => .bl (g x)) = some (l.map g) := by
  induction l with
  | nil => rfl
  | cons x l ih => simp only [List.map_cons, asBools, ih]; rfl
theorem gAll_map {s : Sto} {g : D → Bool} {l : List D} : gAll s [.lst (l.map fun x => .bl (g x))] = some (.bl (l.all g)) := by
  unfold gAll
  simp only [asBools_map, Option.map_some, List.all_map]
  rfl
/-! ### the jar -/
def Jar (n : Nat) (s : Sto) : Prop := ∃ a b : Int, s.cel[n]? = some [.int a, .int b] ∧ 0 ≤ a ∧ 0 ≤ b ∧ b < 2147483648
structure Jr (n : Nat) (s s' : Sto) : Prop where
  jar : Jar n s'
  len : s'.cel.length = s.cel.length
  oth : ∀ i, i ≠ n → s'.cel[i]? = s.cel[i]?
  obj : s'.obj = s.obj
theorem Jr.refl {n : Nat} {s : Sto} (h : Jar n s) : Jr n s s := ⟨h, rfl, fun _ _ => rfl, rfl⟩
theorem Jr.trans {n : Nat} {s s1 s2 : Sto} (x : Jr n s s1) (y : Jr n s1 s2) : Jr n s s2 := ⟨y.jar, y.len.trans x.len, fun i h => (y.oth i h).trans (x.oth i h), y.obj.trans x.obj⟩
theorem cel_lt {s : Sto} {n : Nat} {l : List D} (h : s.cel[n]? = some l) : n < s.cel.length := by
  rcases Nat.lt_or_ge n s.cel.length with q | q
  · exact q
  · rw [List.getElem?_eq_none q] at h; cases h
theorem setCel_at {s : Sto} {n : Nat} {l l' : List D} (h : s.cel[n]? = some l) : (setCel s n l').cel[n]? = some l' := by
  unfold setCel
  exact List.getElem?_set_self (cel_lt h)
theorem setCel_ne {s : Sto} {n i : Nat} {l' : List D} (h : i ≠ n) : (setCel s n l').cel[i]? = s.cel[i]? := by
  unfold setCel
  exact List.getElem?_set_ne (fun z => h z.symm)
theorem setCel_len {s : Sto} {n : Nat} {l' : List D} : (setCel s n l').cel.length = s.cel.length := by
  unfold setCel
  exact List.length_set
theorem Jr.set {n : Nat} {s : Sto} {l : List D} {a b : Int} (h : s.cel[n]? = some l) (ha : 0 ≤ a) (hb : 0 ≤ b) (hb2 : b < 2147483648) : Jr n s (setCel s n [.int a, .int b]) :=
  ⟨⟨a, b, setCel_at h, ha, hb, hb2⟩, setCel_len, fun i hi => setCel_ne hi, rfl⟩
def subK2 (d : D) (env : Env) (o : D) (r : Res D) : Option (Env × Sto) := match r with
  | .ok i s2 => (putCel s2 o i d).map fun s3 => (env, s3)
  | _ => none
def subK (d : D) (env : Env) (r : Res D) (fi : Sto → Res D) : Option (Env × Sto) := match r with
  | .ok o s1 => subK2 d env o (fi s1)
  | _ => none
@[simp] theorem subK2_ok {d : D} {env : Env} {o i : D} {s : Sto} : subK2 d env o (.ok i s) = (putCel s o i d).map fun s3 => (env, s3) := rfl
@[simp] theorem subK_ok {d : D} {env : Env} {o : D} {fi : Sto → Res D} {s : Sto} : subK d env (.ok o s) fi = subK2 d env o (fi s) := rfl
@[simp] theorem gtSub_ap {fo fi : E} {d : D} {env : Env} {s : Sto} : gtSub fo fi d env s = subK d env (fo env s) (fi env) := by
  unfold gtSub subK subK2
  rfl
theorem putCel_0 {s : Sto} {n : Nat} {x y : D} {d : D} (h : s.cel[n]? = some [x, y]) (hd : d.pure = true) : putCel s (.cel n) (.int 0) d = some (setCel s n [d, y]) := by
  unfold putCel
  simp [h, ixN, hd]
theorem putCel_1 {s : Sto} {n : Nat} {x y : D} {d : D} (h : s.cel[n]? = some [x, y]) (hd : d.pure = true) : putCel s (.cel n) (.int 1) d = some (setCel s n [x, d]) := by
  unfold putCel
  simp [h, ixN, hd]
end G

end
section
namespace G
open PySem PySem.Spec L2
theorem pureL_cons0 {d : D} {l : List D} : pureL (d :: l) = (d.pure && pureL l) := by rw [pureL]
theorem Jr.cel {n i : Nat} {s s' : Sto} {l : List D} (j : Jr n s s') (h : i ≠ n) (e : s.cel[i]? = some l) : s'.cel[i]? = some l := (j.oth i h).trans e
/-- what a def that makes its own lists leaves -/
theorem Jr.cut {n : Nat} {s s' : Sto} (hn : n < s.cel.length) (hj : Jar n s') (hl : s.cel.length ≤ s'.cel.length) (ho : ∀ i, i < s.cel.length → i ≠ n → s'.cel[i]? = s.cel[i]?) (hb : s'.obj = s.obj) : Jr n s (cut s.cel.length s') := by
  refine ⟨?_, ?_, fun i hi => ?_, hb⟩
  · obtain ⟨a, b, h, r⟩ := hj
    exact ⟨a, b, by unfold G.cut; rw [List.getElem?_take_of_lt hn]; exact h, r⟩
  · unfold G.cut
    rw [List.length_take]
    omega
  · unfold G.cut
    rcases Nat.lt_or_ge i s.cel.length with q | q
    · rw [List.getElem?_take_of_lt q]; exact ho i q hi
    · rw [List.getElem?_eq_none q, List.getElem?_eq_none (by rw [List.length_take]; omega)]
theorem Jar.lt {n : Nat} {s : Sto} (h : Jar n s) : n < s.cel.length := let ⟨_, _, h, _⟩ := h; cel_lt h
theorem newCel_old {s : Sto} {l : List D} {i : Nat} (h : i < s.cel.length) : (newCel s l).cel[i]? = s.cel[i]? := by
  unfold newCel
  exact List.getElem?_append_left h
theorem newCel_new {s : Sto} {l : List D} : (newCel s l).cel[s.cel.length]? = some l := by
  unfold newCel
  simp
theorem newCel_len {s : Sto} {l : List D} : (newCel s l).cel.length = s.cel.length + 1 := by
  unfold newCel
  simp
theorem Jar.new {n : Nat} {s : Sto} {l : List D} (h : Jar n s) : Jar n (newCel s l) := by
  obtain ⟨a, b, e, r⟩ := h
  exact ⟨a, b, by rw [newCel_old (cel_lt e)]; exact e, r⟩
theorem Jar.setO {n m : Nat} {s : Sto} {l : List D} (h : Jar n s) (hm : n ≠ m) : Jar n (setCel s m l) := by
  obtain ⟨a, b, e, r⟩ := h
  exact ⟨a, b, by rw [setCel_ne hm]; exact e, r⟩
def methK (T : String) (g : GM) (o : D) (s1 : Sto) (gl : Sto → Res (List D)) : Res D := if tyD T o = true then (gl s1).bind fun ds s2 => resM (g s2 o ds) else .bad
@[simp] theorem eMeth_ap {T : String} {g : GM} {fo : E} {gl : EL} {env : Env} {s : Sto} : eMeth T g fo gl env s = (fo env s).bind fun o s1 => methK T g o s1 (gl env) := rfl
@[simp] theorem methK_cel {g : GM} {n : Nat} {s1 : Sto} {gl : Sto → Res (List D)} : methK "list" g (.cel n) s1 gl = (gl s1).bind fun ds s2 => resM (g s2 (.cel n) ds) := rfl
@[simp] theorem methK_str {g : GM} {n : Str} {s1 : Sto} {gl : Sto → Res (List D)} : methK "str" g (.str n) s1 gl = (gl s1).bind fun ds s2 => resM (g s2 (.str n) ds) := rfl
@[simp] theorem resM_some {p : D × Sto} : resM (some p) = .ok p.1 p.2 := rfl
def pcelK (d : D) (s1 : Sto) (r : Sto → Res (List D)) : Res (List D) := match d with
  | .lst l => if pureL l = true then (r (newCel s1 l)).bind fun ds s2 => .ok (.cel s1.cel.length :: ds) s2 else .bad
  | _ => .bad
@[simp] theorem pcelK_lst {l : List D} {s1 : Sto} {r : Sto → Res (List D)} : pcelK (.lst l) s1 r = if pureL l = true then (r (newCel s1 l)).bind fun ds s2 => .ok (.cel s1.cel.length :: ds) s2 else .bad := rfl
@[simp] theorem pNil_ap {env : Env} {s : Sto} : pNil env s = .ok [] s := rfl
@[simp] theorem pCons_ap {a : E} {r : EL} {env : Env} {s : Sto} : pCons a r env s = (a env s).bind fun x s1 => (r env s1).bind fun xs s2 => .ok (x :: xs) s2 := rfl
@[simp] theorem pCel_ap {f : E} {r : EL} {env : Env} {s : Sto} : pCel f r env s = (f env s).bind fun d s1 => pcelK d s1 (r env) := rfl
@[simp] theorem pureL_nil : pureL [] = true := by simp [pureL]
theorem append_ok {s : Sto} {n : Nat} {l : List D} {d : D} (h : s.cel[n]? = some l) (hd : d.pure = true) (hl : l.length < 16777216) : mAppend s (.cel n) [d] = some (.non, setCel s n (l ++ [d])) := by
  unfold mAppend
  simp [h, hd, hl]
theorem pureL_of {l : List D} (h : ∀ y ∈ l, y.pure = true) : pureL l = true := by
  induction l with
  | nil => rfl
  | cons d l ih => rw [pureL_cons0, h d (by simp), ih fun y hy => h y (by simp [hy])]; rfl
mutual
theorem fz_pure {n : Nat} {c : List (List D)} : ∀ (d : D), d.pure = true → fz n c d = d
  | .cel _, h => by cases h
  | .tup l, h => by unfold fz; rw [fzL_pure l (by simpa [D.pure] using h)]
  | .lst l, h => by unfold fz; rw [fzL_pure l (by simpa [D.pure] using h)]
  | .non, _ => rfl
  | .bl _, _ => rfl
  | .int _, _ => rfl
  | .str _, _ => rfl
  | .obj _, _ => rfl
  | .fn _, _ => rfl
  | .ty _, _ => rfl
  | .scr _, _ => rfl
theorem fzL_pure {n : Nat} {c : List (List D)} : ∀ (l : List D), pureL l = true → fzL n c l = l
  | [], _ => rfl
  | d :: l, h => by
    rw [pureL_cons0, Bool.and_eq_true] at h
    unfold fzL
    rw [fz_pure d h.1, fzL_pure l h.2]
end
end G

end
section
namespace G
open PySem PySem.Spec L2
theorem dAdd_ll {s : Sto} {a b : List D} (h : a.length + b.length ≤ 16777216) : dAdd s (.lst a) (.lst b) = some (.lst (a ++ b)) := by
  unfold dAdd
  simp [h]
theorem dAdd_tt {s : Sto} {a b : List D} (h : a.length + b.length ≤ 16777216) : dAdd s (.tup a) (.tup b) = some (.tup (a ++ b)) := by
  unfold dAdd
  simp [h]
theorem dEq_ii {s : Sto} {i j : Int} : dEq s (.int i) (.int j) = some (.bl (i == j)) := by simp [dEq]
theorem cutD_pre {l : List D} {k : Nat} (h : k ≤ l.length) : cutD l none (some (k : Int)) = l.take k := by
  unfold cutD
  rw [HT.sIx_none, HT.sIx_nat, List.drop_zero, Nat.min_eq_left h, Nat.sub_zero]
theorem cutD_post {l : List D} {k : Nat} (h : k < l.length) : cutD l (some ((k : Int) + 1)) none = l.drop (k + 1) := by
  unfold cutD
  rw [HT.sIx_none, show ((k : Int) + 1) = ((k + 1 : Nat) : Int) by omega, HT.sIx_nat, Nat.min_eq_left (by omega)]
  exact List.take_of_length_le (by rw [List.length_drop]; omega)
theorem cutD_mid {l : List D} {k : Nat} (h : k < l.length) : cutD l (some (k : Int)) (some ((k : Int) + 1)) = (l.drop k).take 1 := by
  unfold cutD
  rw [show ((k : Int) + 1) = ((k + 1 : Nat) : Int) by omega, HT.sIx_nat, HT.sIx_nat, Nat.min_eq_left (by omega), Nat.min_eq_left (by omega), show k + 1 - k = 1 by omega]
@[simp] theorem gSl_tup {s : Sto} {l : List D} {lo hi : Option Int} : gSl s (.tup l) lo hi = some (.tup (cutD l lo hi)) := rfl
@[simp] theorem dRev_tup {s : Sto} {l : List D} : dRev s (.tup l) = some (.tup l.reverse) := rfl
theorem dMul_t2 {s : Sto} {l : List D} (h0 : l ≠ []) (h : l.length ≤ 1000) : dMul s (.tup l) (.int 2) = some (.tup (l ++ l)) := by
  unfold dMul
  simp [h0, h]
end G

end
section
namespace G
open PySem PySem.Spec L2
def kn__law_told : List Str := ["InvalidBook", "InvalidRing", "InvalidScript", "InvalidWord"]
def hs__law_told : List (Str × Str) := [("InvalidRing", "ring"), ("InvalidWord", "word")]
def f_is_from : Fun1 := defF 3 (sRet (eAnd (eFn gIsi (lCons (eVar 0) (lCons (eC (.ty "int")) (lNil)))) (eAnd (eNot (eFn gIsi (lCons (eVar 0) (lCons (eC (.ty "bool")) (lNil))))) (eChain dLe dLe (eVar 1) (eVar 0) (eVar 2)))))
def wc_lowest_0 : EB := bVal (eOp dNe (eVar 3) (eC (.int 0)))
def wb_lowest_0 : SM := sPar [2, 3] (lCons (eVar 3) (lCons (eOp dMod (eVar 2) (eVar 3)) (lNil)))
def f_lowest : Fun1 := defF 4 (sSeq (sPar [2, 3] (lCons (eFn gAbs (lCons (eVar 0) (lNil))) (lCons (eVar 1) (lNil)))) (sSeq (sWhile (wc_lowest_0) (wb_lowest_0) (fun env => wfuel 3 env)) (sRet (eTup (lCons (eOp dFdiv (eVar 0) (eVar 2)) (lCons (eOp dFdiv (eVar 1) (eVar 2)) (lNil)))))))
def le_is_gap_0 : E := eCall f_is_from (lCons (eVar 2) (lCons (eC (.int 0)) (lCons (eOp dSub (eOp dMul (eC (.int 2)) (eVar 0)) (eC (.int 1))) (lNil))))
def f_is_gap : Fun1 := defF 3 (sSeq (sIf (bOr (bNot (bVal (eFn gIsi (lCons (eVar 1) (lCons (eC (.ty "tuple")) (lNil)))))) (bVal (eOp dNe (eFn gLen (lCons (eVar 1) (lNil))) (eC (.int 3))))) (sRet (eC (.bl false))) (sNx)) (sSeq (sIf (bOr (bNot (bVal (eFn gAll (lCons (eLc [2] (.nm 2) (iSeq (eSl (eVar 1) (oNone) (oSome (eC (.int 2))))) (bYes) (le_is_gap_0)) (lNil))))) (bVal (eOp dEq (eOp gIx (eVar 1) (eC (.int 0))) (eOp gIx (eVar 1) (eC (.int 1)))))) (sRet (eC (.bl false))) (sNx)) (sRet (eCall f_is_from (lCons (eOp gIx (eVar 1) (eC (.int 2))) (lCons (eUn dNeg (eC (.int 1000))) (lCons (eC (.int 1000)) (lNil))))))))
def le_is_good_book_0 : E := eCall f_is_gap (lCons (eOp gIx (eVar 0) (eC (.int 0))) (lCons (eVar 1) (lNil)))
def f_is_good_book : Fun1 := defF 2 (sSeq (sIf (bOr (bNot (bVal (eFn gIsi (lCons (eVar 0) (lCons (eC (.ty "tuple")) (lNil)))))) (bOr (bVal (eOp dNe (eFn gLen (lCons (eVar 0) (lNil))) (eC (.int 2)))) (bNot (bVal (eCall f_is_from (lCons (eOp gIx (eVar 0) (eC (.int 0))) (lCons (eC (.int 1)) (lCons (eC (.int 3)) (lNil))))))))) (sRet (eC (.bl false))) (sNx)) (sSeq (sIf (bOr (bNot (bVal (eFn gIsi (lCons (eOp gIx (eVar 0) (eC (.int 1))) (lCons (eC (.ty "tuple")) (lNil)))))) (bVal (eOp dGt (eFn gLen (lCons (eOp gIx (eVar 0) (eC (.int 1))) (lNil))) (eC (.int 6))))) (sRet (eC (.bl false))) (sNx)) (sRet (eFn gAll (lCons (eLc [1] (.nm 1) (iSeq (eOp gIx (eVar 0) (eC (.int 1)))) (bYes) (le_is_good_book_0)) (lNil))))))
def f_is_step : Fun1 := defF 2 (sSeq (sIf (bOr (bNot (bVal (eFn gIsi (lCons (eVar 1) (lCons (eC (.ty "tuple")) (lNil)))))) (bOr (bVal (eOp dEq (eVar 1) (eTup (lNil)))) (bNot (bVal (eFn gIsi (lCons (eOp gIx (eVar 1) (eC (.int 0))) (lCons (eC (.ty "str")) (lNil)))))))) (sRet (eC (.bl false))) (sNx)) (sSeq (sIf (bVal (eOp dEq (eOp gIx (eVar 1) (eC (.int 0))) (eC (.str "shift")))) (sRet (eAnd (eOp dEq (eFn gLen (lCons (eVar 1) (lNil))) (eC (.int 3))) (eAnd (eCall f_is_from (lCons (eOp gIx (eVar 1) (eC (.int 1))) (lCons (eC (.int 0)) (lCons (eOp dSub (eVar 0) (eC (.int 1))) (lNil))))) (eCall f_is_from (lCons (eOp gIx (eVar 1) (eC (.int 2))) (lCons (eUn dNeg (eC (.int 1000))) (lCons (eC (.int 1000)) (lNil)))))))) (sNx)) (sRet (eAnd (eOp dIn (eOp gIx (eVar 1) (eC (.int 0))) (eTup (lCons (eC (.str "later")) (lCons (eC (.str "earlier")) (lCons (eC (.str "longer")) (lCons (eC (.str "shorter")) (lNil))))))) (eAnd (eOp dEq (eFn gLen (lCons (eVar 1) (lNil))) (eC (.int 2))) (eCall f_is_from (lCons (eOp gIx (eVar 1) (eC (.int 1))) (lCons (eC (.int 0)) (lCons (eC (.int 1000)) (lNil))))))))))
def le_is_good_script_0 : E := eCall f_is_step (lCons (eVar 0) (lCons (eVar 2) (lNil)))
def f_is_good_script : Fun1 := defF 3 (sRet (eAnd (eFn gIsi (lCons (eVar 1) (lCons (eC (.ty "tuple")) (lNil)))) (eAnd (eOp dLe (eFn gLen (lCons (eVar 1) (lNil))) (eC (.int 5))) (eFn gAll (lCons (eLc [2] (.nm 2) (iSeq (eVar 1)) (bYes) (le_is_good_script_0)) (lNil))))))
def f_need_book : Fun1 := defF 1 (sIf (bNot (bVal (eCall f_is_good_book (lCons (eVar 0) (lNil))))) (sRaise "InvalidBook") (sNx))
def f_need_script : Fun1 := defF 2 (sIf (bNot (bVal (eCall f_is_good_script (lCons (eVar 0) (lCons (eVar 1) (lNil)))))) (sRaise "InvalidScript") (sNx))
def le_weighed_0 : E := eTup (lCons (eOp gIx (eVar 2) (eC (.int 0))) (lCons (eOp gIx (eVar 2) (eC (.int 1))) (lCons (eOp dAdd (eOp dMul (eOp gIx (eVar 2) (eC (.int 2))) (eOp dAdd (eVar 1) (eC (.int 1)))) (eFn gInt (lCons (eOp gIx (eVar 2) (eC (.int 3))) (lNil)))) (lNil))))
def f_weighed : Fun1 := defF 3 (sRet (eLc [2] (.nm 2) (iSeq (eVar 0)) (bYes) (le_weighed_0)))
def lb_risen_0 : SM := sSeq (sAsg (gtTup [gtName 8, gtName 9, gtName 10]) (eVar 7)) (sIf (bVal (eOp dGt (eOp dAdd (eOp gIx (eVar 2) (eVar 8)) (eVar 10)) (eOp gIx (eVar 2) (eVar 9)))) (sAsg (gtTup [gtSub (eVar 2) (eVar 9), gtSub (eVar 3) (eVar 9), gtName 4]) (eTup (lCons (eOp dAdd (eOp gIx (eVar 2) (eVar 8)) (eVar 10)) (lCons (eVar 6) (lCons (eVar 6) (lNil)))))) (sNx))
def lb_risen_1 : SM := sSeq (sSet 4 (eC .non)) (sSeq (sFor (.tp [(.nm 6), (.nm 7)]) (iOf gEnum (lCons (eVar 0) (lNil))) (lb_risen_0)) (sIf (bVal (eOp dIsN (eVar 4) (eC .non))) (sRet (eTup (lCons (eVar 2) (lCons (eC .non) (lNil))))) (sNx)))
def f_risen : Fun1 := defC 11 (sSeq (sPar [2, 3] (pCel (eOp dMul (eLst (lCons (eC (.int 0)) (lNil))) (eVar 1)) (pCel (eOp dMul (eLst (lCons (eC .non) (lNil))) (eVar 1)) (pNil)))) (sSeq (sSet 4 (eC .non)) (sSeq (sFor (.nm 5) (iOf gR1 (lCons (eOp dAdd (eVar 1) (eC (.int 1))) (lNil))) (lb_risen_1)) (sRet (eTup (lCons (eC .non) (lCons (eTup (lCons (eVar 4) (lCons (eVar 3) (lNil)))) (lNil))))))))
def lb_ring_by_0 : SM := sSet 5 (eOp gIx (eOp gIx (eVar 0) (eOp gIx (eVar 4) (eVar 5))) (eC (.int 0)))
def wc_ring_by_0 : EB := bVal (eOp dNe (eVar 8) (eVar 5))
def wb_ring_by_0 : SM := sPar [7, 8] (lCons (eOp dAdd (eTup (lCons (eOp gIx (eVar 4) (eVar 8)) (lNil))) (eVar 7)) (lCons (eOp gIx (eOp gIx (eVar 0) (eOp gIx (eVar 4) (eVar 8))) (eC (.int 0))) (lNil)))
def f_ring_by : Fun1 := defF 9 (sSeq (sAsg (gtTup [gtName 3, gtName 4]) (eVar 2)) (sSeq (sSet 5 (eOp gIx (eOp gIx (eVar 0) (eVar 3)) (eC (.int 1)))) (sSeq (sFor (.nm 6) (iOf gR1 (lCons (eVar 1) (lNil))) (lb_ring_by_0)) (sSeq (sPar [7, 8] (lCons (eTup (lCons (eOp gIx (eVar 4) (eVar 5)) (lNil))) (lCons (eOp gIx (eOp gIx (eVar 0) (eOp gIx (eVar 4) (eVar 5))) (eC (.int 0))) (lNil)))) (sSeq (sWhile (wc_ring_by_0) (wb_ring_by_0) (fun _ => 8)) (sRet (eVar 7)))))))
def lb_lone_ring_0 : SM := sIf (bAnd (bVal (eOp dEq (eOp gIx (eVar 2) (eC (.int 0))) (eOp gIx (eVar 2) (eC (.int 1))))) (bOr (bVal (eOp dGt (eOp gIx (eVar 2) (eC (.int 2))) (eC (.int 0)))) (bAnd (bVal (eOp dEq (eOp gIx (eVar 2) (eC (.int 2))) (eC (.int 0)))) (bVal (eOp gIx (eVar 2) (eC (.int 3))))))) (sRet (eTup (lCons (eVar 1) (lNil)))) (sNx)
def f_lone_ring : Fun1 := defF 3 (sSeq (sFor (.tp [(.nm 1), (.nm 2)]) (iOf gEnum (lCons (eVar 0) (lNil))) (lb_lone_ring_0)) (sRet (eC .non)))
def le_solved_0 : E := eCall f_lowest (lCons (eVar 5) (lCons (eOp dAdd (eVar 1) (eC (.int 1))) (lNil)))
def f_solved : Fun1 := defF 6 (sSeq (sIf (bVal (eOp dNotN (eCall f_lone_ring (lCons (eVar 0) (lNil))) (eC .non))) (sRet (eTup (lCons (eC .non) (lCons (eCall f_lone_ring (lCons (eVar 0) (lNil))) (lNil))))) (sNx)) (sSeq (sSet 2 (eCall f_weighed (lCons (eVar 0) (lCons (eVar 1) (lNil))))) (sSeq (sAsg (gtTup [gtName 3, gtName 4]) (eCall f_risen (lCons (eVar 2) (lCons (eVar 1) (lNil))))) (sSeq (sIf (bVal (eOp dIsN (eVar 3) (eC .non))) (sRet (eTup (lCons (eC .non) (lCons (eCall f_ring_by (lCons (eVar 2) (lCons (eVar 1) (lCons (eVar 4) (lNil))))) (lNil))))) (sNx)) (sRet (eTup (lCons (eFn gTup (lCons (eLc [5] (.nm 5) (iSeq (eVar 3)) (bYes) (le_solved_0)) (lNil))) (lCons (eC .non) (lNil)))))))))
def f_can_be : Fun1 := defF 2 (sRet (eOp dNotN (eOp gIx (eCall f_solved (lCons (eVar 0) (lCons (eVar 1) (lNil)))) (eC (.int 0))) (eC .non)))
def le_tests_of_0 : E := eTup (lCons (eOp dSub (eOp dMul (eC (.int 2)) (eVar 6)) (eC (.int 1))) (lCons (eOp dMul (eC (.int 2)) (eVar 6)) (lCons (eVar 3) (lCons (eOp dMul (eC (.int 2)) (eVar 6)) (lCons (eOp dSub (eOp dMul (eC (.int 2)) (eVar 6)) (eC (.int 1))) (lCons (eVar 3) (lNil)))))))
def le_tests_of_1 : E := eTup (lCons (eOp dAdd (eOp dMul (eC (.int 2)) (eVar 6)) (eC (.int 1))) (lCons (eOp dAdd (eOp dMul (eC (.int 2)) (eVar 6)) (eC (.int 2))) (lCons (eVar 3) (lCons (eOp dAdd (eOp dMul (eC (.int 2)) (eVar 6)) (eC (.int 1))) (lCons (eOp dAdd (eOp dMul (eC (.int 2)) (eVar 6)) (eC (.int 2))) (lCons (eOp dSub (eC (.int 0)) (eVar 3)) (lNil)))))))
def le_tests_of_2 : E := eTup (lCons (eOp dMul (eC (.int 2)) (eVar 6)) (lCons (eOp dAdd (eOp dMul (eC (.int 2)) (eVar 6)) (eC (.int 1))) (lCons (eVar 3) (lCons (eOp dAdd (eOp dMul (eC (.int 2)) (eVar 6)) (eC (.int 1))) (lCons (eOp dMul (eC (.int 2)) (eVar 6)) (lCons (eVar 3) (lNil)))))))
def le_tests_of_3 : E := eTup (lCons (eOp dAdd (eOp dMul (eC (.int 2)) (eVar 6)) (eC (.int 1))) (lCons (eOp dMul (eC (.int 2)) (eVar 6)) (lCons (eOp dSub (eC (.int 0)) (eVar 3)) (lCons (eOp dAdd (eOp dMul (eC (.int 2)) (eVar 6)) (eC (.int 1))) (lCons (eOp dMul (eC (.int 2)) (eVar 6)) (lCons (eVar 3) (lNil)))))))
def f_tests_of : Fun1 := defF 7 (sSeq (sAsg (gtTup [gtName 2, gtName 3]) (eTup (lCons (eOp gIx (eVar 1) (eC (.int 0))) (lCons (eOp gIx (eVar 1) (eUn dNeg (eC (.int 1)))) (lNil))))) (sSeq (sPar [4, 5] (lCons (eLstR gR1 (lCons (eVar 0) lNil)) (lCons (eLst (lNil)) (lNil)))) (sSeq (sIf (bVal (eOp dEq (eVar 2) (eC (.str "later")))) (sSet 5 (eLc [6] (.nm 6) (iSeq (eSl (eVar 4) (oSome (eC (.int 1))) (oNone))) (bYes) (le_tests_of_0))) (sNx)) (sSeq (sIf (bVal (eOp dEq (eVar 2) (eC (.str "earlier")))) (sSet 5 (eLc [6] (.nm 6) (iSeq (eSl (eVar 4) (oNone) (oSome (eUn dNeg (eC (.int 1)))))) (bYes) (le_tests_of_1))) (sNx)) (sSeq (sIf (bVal (eOp dEq (eVar 2) (eC (.str "longer")))) (sSet 5 (eLc [6] (.nm 6) (iSeq (eVar 4)) (bYes) (le_tests_of_2))) (sNx)) (sSeq (sIf (bVal (eOp dEq (eVar 2) (eC (.str "shorter")))) (sSet 5 (eLc [6] (.nm 6) (iSeq (eVar 4)) (bYes) (le_tests_of_3))) (sNx)) (sRet (eVar 5))))))))
def f_more_form : Fun1 := defF 2 (sRet (eTup (lCons (eOp gIx (eVar 0) (eC (.int 0))) (lCons (eOp dAdd (eOp gIx (eVar 0) (eC (.int 1))) (eVar 1)) (lNil)))))
def le_shifted_0 : E := eIf (bVal (eOp dGe (eVar 3) (eOp dMul (eC (.int 2)) (eOp gIx (eVar 1) (eC (.int 1)))))) (eCallV 2 [("more_form", f_more_form)] (lCons (eVar 4) (lCons (eOp gIx (eVar 1) (eC (.int 2))) (lNil)))) (eVar 4)
def f_shifted : Fun1 := defF 5 (sRet (eFn gTup (lCons (eLc [3, 4] (.tp [(.nm 3), (.nm 4)]) (iOf gEnum (lCons (eVar 0) (lNil))) (bYes) (le_shifted_0)) (lNil))))
def f_put : Fun1 := defF 3 (sRet (eOp dAdd (eOp dAdd (eSl (eVar 0) (oNone) (oSome (eVar 1))) (eTup (lCons (eVar 2) (lNil)))) (eSl (eVar 0) (oSome (eOp dAdd (eVar 1) (eC (.int 1)))) (oNone))))
def le_fact_rows_0 : E := eOp dAdd (eVar 1) (eTup (lCons (eC (.bl false)) (lNil)))
def f_fact_rows : Fun1 := defF 2 (sRet (eLc [1] (.nm 1) (iSeq (eOp gIx (eVar 0) (eC (.int 1)))) (bYes) (le_fact_rows_0)))
def f_test_row : Fun1 := defF 5 (sSeq (sPar [3, 4] (lCons (eCall f_more_form (lCons (eOp gIx (eVar 0) (eOp gIx (eVar 1) (eC (.int 0)))) (lCons (eOp gIx (eVar 1) (eC (.int 2))) (lNil)))) (lCons (eOp gIx (eVar 0) (eOp gIx (eVar 1) (eC (.int 1)))) (lNil)))) (sSeq (sIf (bVal (eVar 2)) (sRet (eTup (lCons (eOp gIx (eVar 4) (eC (.int 0))) (lCons (eOp gIx (eVar 3) (eC (.int 0))) (lCons (eOp dSub (eOp gIx (eVar 4) (eC (.int 1))) (eOp gIx (eVar 3) (eC (.int 1)))) (lCons (eC (.bl true)) (lNil))))))) (sNx)) (sRet (eTup (lCons (eOp gIx (eVar 3) (eC (.int 0))) (lCons (eOp gIx (eVar 4) (eC (.int 0))) (lCons (eOp dSub (eOp gIx (eVar 3) (eC (.int 1))) (eOp gIx (eVar 4) (eC (.int 1)))) (lCons (eC (.bl false)) (lNil)))))))))
def le_first_forms_0 : E := eTup (lCons (eVar 1) (lCons (eC (.int 0)) (lNil)))
def f_first_forms : Fun1 := defF 2 (sRet (eFn gTup (lCons (eLc [1] (.nm 1) (iSeq (eLstR gR1 (lCons (eOp dMul (eC (.int 2)) (eVar 0)) lNil))) (bYes) (le_first_forms_0)) (lNil))))
def f_truths_at : Fun1 := defF 2 (sRet (eIf (bVal (eOp dIsN (eVar 1) (eC .non))) (eTup (lCons (eC (.bl false)) (lCons (eC (.bl true)) (lNil)))) (eTup (lCons (eOp gIx (eVar 1) (eFn gLen (lCons (eVar 0) (lNil)))) (lNil)))))
def le_branches_0 : E := eTup (lCons (eVar 7) (lCons (eCall f_shifted (lCons (eVar 8) (lCons (eVar 6) (lCons (eC (.fn "more_form")) (lNil))))) (lCons (eVar 9) (lNil))))
def lb_branches_0 : SM := sSeq (sSet 13 (eCall f_test_row (lCons (eVar 8) (lCons (eVar 10) (lCons (eVar 12) (lNil)))))) (sSeq (sSet 14 (eCall f_more_form (lCons (eOp gIx (eVar 8) (eOp gIx (eVar 10) (eC (.int 4)))) (lCons (eOp gIx (eVar 10) (eC (.int 5))) (lNil))))) (sSeq (sSet 15 (eIf (bVal (eVar 12)) (eCall f_put (lCons (eVar 8) (lCons (eOp gIx (eVar 10) (eC (.int 3))) (lCons (eVar 14) (lNil))))) (eVar 8))) (sIf (bOr (bVal (eOp dNotN (eVar 4) (eC .non))) (bVal (eCall f_can_be (lCons (eOp dAdd (eVar 9) (eLst (lCons (eVar 13) (lNil)))) (lCons (eOp dMul (eC (.int 2)) (eVar 0)) (lNil)))))) (sSet 11 (eOp dAdd (eVar 11) (eLst (lCons (eTup (lCons (eOp dAdd (eVar 7) (eTup (lCons (eVar 12) (lNil)))) (lCons (eVar 15) (lCons (eOp dAdd (eVar 9) (eLst (lCons (eVar 13) (lNil)))) (lNil))))) (lNil))))) (sNx))))
def lb_branches_1 : SM := sFor (.nm 12) (iSeq (eCall f_truths_at (lCons (eVar 7) (lCons (eVar 4) (lNil))))) (lb_branches_0)
def lb_branches_2 : SM := sSeq (sSet 11 (eLst (lNil))) (sSeq (sFor (.tp [(.nm 7), (.nm 8), (.nm 9)]) (iSeq (eVar 5)) (lb_branches_1)) (sSet 5 (eVar 11)))
def lb_branches_3 : SM := sSeq (sIf (bVal (eOp dEq (eOp gIx (eVar 6) (eC (.int 0))) (eC (.str "shift")))) (sSet 5 (eLc [7, 8, 9] (.tp [(.nm 7), (.nm 8), (.nm 9)]) (iSeq (eVar 5)) (bYes) (le_branches_0))) (sNx)) (sFor (.nm 10) (iSeq (eCall f_tests_of (lCons (eVar 0) (lCons (eVar 6) (lNil))))) (lb_branches_2))
def f_branches : Fun1 := defF 16 (sSeq (sSet 5 (eLst (lCons (eTup (lCons (eTup (lNil)) (lCons (eVar 2) (lCons (eVar 3) (lNil))))) (lNil)))) (sSeq (sFor (.nm 6) (iSeq (eVar 1)) (lb_branches_3)) (sRet (eVar 5))))
def f_run_by : Fun1 := defF 3 (sRet (eOp gIx (eCall f_branches (lCons (eOp gIx (eVar 0) (eC (.int 0))) (lCons (eVar 1) (lCons (eCall f_first_forms (lCons (eOp gIx (eVar 0) (eC (.int 0))) (lNil))) (lCons (eCall f_fact_rows (lCons (eVar 0) (lNil))) (lCons (eVar 2) (lNil))))))) (eC (.int 0))))
def le_need_word_0 : E := eFn gLen (lCons (eCall f_tests_of (lCons (eOp gIx (eVar 0) (eC (.int 0))) (lCons (eVar 4) (lNil)))) (lNil))
def le_need_word_1 : E := eFn gIsi (lCons (eVar 5) (lCons (eC (.ty "bool")) (lNil)))
def f_need_word : Fun1 := defF 6 (sSeq (sDrop (eCall f_need_book (lCons (eVar 0) (lNil)))) (sSeq (sDrop (eCall f_need_script (lCons (eOp gIx (eVar 0) (eC (.int 0))) (lCons (eVar 1) (lNil))))) (sSeq (sSet 3 (eFn gSum (lCons (eLc [4] (.nm 4) (iSeq (eVar 1)) (bYes) (le_need_word_0)) (lNil)))) (sIf (bOr (bNot (bVal (eFn gIsi (lCons (eVar 2) (lCons (eC (.ty "tuple")) (lNil)))))) (bOr (bVal (eOp dNe (eFn gLen (lCons (eVar 2) (lNil))) (eVar 3))) (bNot (bVal (eFn gAll (lCons (eLc [5] (.nm 5) (iSeq (eVar 2)) (bYes) (le_need_word_1)) (lNil))))))) (sRaise "InvalidWord") (sNx)))))
def f_forms : Fun1 := defF 3 (sSeq (sDrop (eCall f_need_word (lCons (eVar 0) (lCons (eVar 1) (lCons (eVar 2) (lNil)))))) (sRet (eOp gIx (eCall f_run_by (lCons (eVar 0) (lCons (eVar 1) (lCons (eVar 2) (lNil))))) (eC (.int 1)))))
def f_rows : Fun1 := defF 3 (sSeq (sDrop (eCall f_need_word (lCons (eVar 0) (lCons (eVar 1) (lCons (eVar 2) (lNil)))))) (sRet (eOp gIx (eCall f_run_by (lCons (eVar 0) (lCons (eVar 1) (lCons (eVar 2) (lNil))))) (eC (.int 2)))))
def le_is_round_0 : E := eOp dEq (eOp gIx (eOp gIx (eVar 0) (eVar 3)) (eC (.int 1))) (eOp gIx (eOp gIx (eVar 0) (eVar 4)) (eC (.int 0)))
def le_is_round_1 : E := eCall f_is_from (lCons (eVar 2) (lCons (eC (.int 0)) (lCons (eOp dSub (eFn gLen (lCons (eVar 0) (lNil))) (eC (.int 1))) (lNil))))
def f_is_round : Fun1 := defF 5 (sSeq (sIf (bOr (bNot (bVal (eFn gIsi (lCons (eVar 1) (lCons (eC (.ty "tuple")) (lNil)))))) (bNot (bVal (eChain dLe dLe (eC (.int 1)) (eFn gLen (lCons (eVar 1) (lNil))) (eC (.int 50)))))) (sRet (eC (.bl false))) (sNx)) (sSeq (sIf (bNot (bVal (eFn gAll (lCons (eLc [2] (.nm 2) (iSeq (eVar 1)) (bYes) (le_is_round_1)) (lNil))))) (sRet (eC (.bl false))) (sNx)) (sRet (eFn gAll (lCons (eLc [3, 4] (.tp [(.nm 3), (.nm 4)]) (iOf gZip (lCons (eVar 1) (lCons (eOp dAdd (eSl (eVar 1) (oSome (eC (.int 1))) (oNone)) (eSl (eVar 1) (oNone) (oSome (eC (.int 1))))) (lNil)))) (bYes) (le_is_round_0)) (lNil))))))
def le_is_ring_0 : E := eOp gIx (eOp gIx (eVar 4) (eVar 6)) (eC (.int 3))
def le_is_ring_1 : E := eOp gIx (eOp gIx (eVar 4) (eVar 6)) (eC (.int 2))
def f_is_ring : Fun1 := defF 7 (sSeq (sDrop (eCall f_need_word (lCons (eVar 0) (lCons (eVar 1) (lCons (eVar 2) (lNil)))))) (sSeq (sSet 4 (eOp gIx (eCall f_run_by (lCons (eVar 0) (lCons (eVar 1) (lCons (eVar 2) (lNil))))) (eC (.int 2)))) (sSeq (sIf (bNot (bVal (eCall f_is_round (lCons (eVar 4) (lCons (eVar 3) (lNil)))))) (sRaise "InvalidRing") (sNx)) (sSeq (sSet 5 (eFn gSum (lCons (eLc [6] (.nm 6) (iSeq (eVar 3)) (bYes) (le_is_ring_1)) (lNil)))) (sRet (eOr (eOp dGt (eVar 5) (eC (.int 0))) (eAnd (eOp dEq (eVar 5) (eC (.int 0))) (eFn gAny (lCons (eLc [6] (.nm 6) (iSeq (eVar 3)) (bYes) (le_is_ring_0)) (lNil))))))))))
def f__law_jar : Fun1 := defF 3 (sSeq (sSet 2 (eIf (bVal (eOp dLt (eVar 1) (eFn gLen (lCons (eVar 0) (lNil))))) (eFn gAbs (lCons (eFn gInt (lCons (eOp gIx (eVar 0) (eVar 1)) (lNil))) (lNil))) (eOp dAdd (eOp dMul (eC (.int 107)) (eVar 1)) (eC (.int 67))))) (sRet (eLst (lCons (eIf (bVal (eOp dGe (eVar 2) (eOp dPow (eC (.int 10)) (eC (.int 18))))) (eVar 2) (eC (.int 0))) (lCons (eOp dMod (eFn gInt (lCons (eOp dAdd (eOp dAdd (eOp dMod (eFn gInt (lCons (eVar 2) (lNil))) (eC (.int 2147477857))) (eOp dMul (eC (.int 40153)) (eVar 1))) (eC (.int 709))) (lNil))) (eC (.int 2147477857))) (lNil))))))
def f__law_dip : Fun1 := defF 4 (sSeq (sIf (bVal (eOp dGt (eOp gIx (eVar 0) (eC (.int 0))) (eC (.int 0)))) (sSeq (sSet 2 (eOp dMod (eFn gInt (lCons (eOp gIx (eVar 0) (eC (.int 0))) (lNil))) (eVar 1))) (sSeq (sAsg (gtSub (eVar 0) (eC (.int 0))) (eOp dFdiv (eFn gInt (lCons (eOp gIx (eVar 0) (eC (.int 0))) (lNil))) (eVar 1))) (sRet (eVar 2)))) (sNx)) (sSeq (sAsg (gtSub (eVar 0) (eC (.int 1))) (eOp dMod (eFn gInt (lCons (eOp dAdd (eOp dMul (eOp gIx (eVar 0) (eC (.int 1))) (eC (.int 47711))) (eC (.int 6007))) (lNil))) (eC (.int 2147477857)))) (sSeq (sSet 3 (eOp dMod (eOp dMul (eFn gInt (lCons (eOp gIx (eVar 0) (eC (.int 1))) (lNil))) (eOp dAdd (eOp dFdiv (eFn gInt (lCons (eOp gIx (eVar 0) (eC (.int 1))) (lNil))) (eC (.int 67))) (eC (.int 47)))) (eC (.int 2147477851)))) (sRet (eOp dMod (eFn gInt (lCons (eOp dFdiv (eFn gInt (lCons (eVar 3) (lNil))) (eC (.int 31))) (lNil))) (eVar 1))))))
def f__law_any : Fun1 := defF 2 (sRet (eOp gIx (eVar 1) (eCall f__law_dip (lCons (eVar 0) (lCons (eFn gLen (lCons (eVar 1) (lNil))) (lNil))))))
def wc__law_low_0 : EB := bVal (eOp dGt (eVar 3) (eC (.int 0)))
def wb__law_low_0 : SM := sPar [2, 3] (lCons (eVar 3) (lCons (eOp dMod (eVar 2) (eVar 3)) (lNil)))
def f__law_low : Fun1 := defF 4 (sSeq (sPar [2, 3] (lCons (eFn gAbs (lCons (eVar 0) (lNil))) (lCons (eVar 1) (lNil)))) (sSeq (sWhile (wc__law_low_0) (wb__law_low_0) (fun env => wfuel 3 env)) (sRet (eTup (lCons (eOp dFdiv (eVar 0) (eVar 2)) (lCons (eOp dFdiv (eVar 1) (eVar 2)) (lNil)))))))
def f__law_plus : Fun1 := defF 2 (sRet (eCall f__law_low (lCons (eOp dAdd (eOp dMul (eOp gIx (eVar 0) (eC (.int 0))) (eOp gIx (eVar 1) (eC (.int 1)))) (eOp dMul (eOp gIx (eVar 1) (eC (.int 0))) (eOp gIx (eVar 0) (eC (.int 1))))) (lCons (eOp dMul (eOp gIx (eVar 0) (eC (.int 1))) (eOp gIx (eVar 1) (eC (.int 1)))) (lNil)))))
def lb__law_moments_0 : SM := sSeq (sDrop (eMeth "list" mAppend (eVar 2) (lCons (eCall f__law_low (lCons (eVar 3) (lCons (eVar 4) (lNil)))) (lNil)))) (sSet 3 (eOp dAdd (eVar 3) (eCall f__law_any (lCons (eVar 0) (lCons (eLst (lCons (eC (.int 0)) (lCons (eC (.int 1)) (lCons (eC (.int 2)) (lCons (eC (.int 3)) (lCons (eC (.int 5)) (lCons (eC (.int 8)) (lCons (eUn dNeg (eC (.int 2))) (lNil))))))))) (lNil))))))
def f__law_moments : Fun1 := defC 6 (sSeq (sPar [2, 3, 4] (pCel (eLst (lNil)) (pCons (eOp dSub (eCall f__law_dip (lCons (eVar 0) (lCons (eC (.int 5)) (lNil)))) (eC (.int 2))) (pCons (eCall f__law_any (lCons (eVar 0) (lCons (eLst (lCons (eC (.int 1)) (lCons (eC (.int 1)) (lCons (eC (.int 2)) (lCons (eC (.int 3)) (lNil)))))) (lNil)))) (pNil))))) (sSeq (sFor (.nm 5) (iOf gR1 (lCons (eOp dMul (eC (.int 2)) (eVar 1)) (lNil))) (lb__law_moments_0)) (sRet (eFn gTup (lCons (eVar 2) (lNil))))))
def f__law_gap : Fun1 := defF 7 (sSeq (sSet 3 (eCall f__law_dip (lCons (eVar 0) (lCons (eOp dMul (eC (.int 2)) (eVar 1)) (lNil))))) (sSeq (sSet 4 (eOp dMod (eOp dAdd (eOp dAdd (eVar 3) (eC (.int 1))) (eCall f__law_dip (lCons (eVar 0) (lCons (eOp dSub (eOp dMul (eC (.int 2)) (eVar 1)) (eC (.int 1))) (lNil))))) (eOp dMul (eC (.int 2)) (eVar 1)))) (sSeq (sSet 5 (eCall f__law_plus (lCons (eOp gIx (eVar 2) (eVar 4)) (lCons (eTup (lCons (eUn dNeg (eOp gIx (eOp gIx (eVar 2) (eVar 3)) (eC (.int 0)))) (lCons (eOp gIx (eOp gIx (eVar 2) (eVar 3)) (eC (.int 1))) (lNil)))) (lNil))))) (sSeq (sSet 6 (eOp dSub (eOp dFdiv (eOp gIx (eVar 5) (eC (.int 0))) (eOp gIx (eVar 5) (eC (.int 1)))) (eCall f__law_any (lCons (eVar 0) (lCons (eLst (lCons (eC (.int 0)) (lCons (eC (.int 0)) (lCons (eC (.int 1)) (lCons (eC (.int 3)) (lNil)))))) (lNil)))))) (sRet (eTup (lCons (eVar 3) (lCons (eVar 4) (lCons (eIf (bVal (eOp dGt (eCall f__law_dip (lCons (eVar 0) (lCons (eC (.int 8)) (lNil)))) (eC (.int 0)))) (eVar 6) (eOp dSub (eCall f__law_dip (lCons (eVar 0) (lCons (eC (.int 9)) (lNil)))) (eC (.int 4)))) (lNil))))))))))
def le__law_book_0 : E := eCall f__law_gap (lCons (eVar 0) (lCons (eVar 1) (lCons (eVar 3) (lNil))))
def f__law_book : Fun1 := defF 5 (sSeq (sSet 3 (eCall f__law_moments (lCons (eVar 0) (lCons (eVar 1) (lNil))))) (sRet (eTup (lCons (eVar 1) (lCons (eFn gTup (lCons (eLc [4] (.nm 4) (iOf gR1 (lCons (eCall f__law_dip (lCons (eVar 0) (lCons (eOp dAdd (eVar 2) (eC (.int 1))) (lNil)))) (lNil))) (bYes) (le__law_book_0)) (lNil))) (lNil))))))
def f__law_step : Fun1 := defF 3 (sSeq (sSet 2 (eCall f__law_dip (lCons (eVar 0) (lCons (eC (.int 6)) (lNil))))) (sSeq (sIf (bVal (eOp dEq (eVar 2) (eC (.int 0)))) (sRet (eTup (lCons (eC (.str "shift")) (lCons (eCall f__law_dip (lCons (eVar 0) (lCons (eVar 1) (lNil)))) (lCons (eOp dSub (eCall f__law_dip (lCons (eVar 0) (lCons (eC (.int 9)) (lNil)))) (eC (.int 4))) (lNil)))))) (sNx)) (sRet (eTup (lCons (eCall f__law_any (lCons (eVar 0) (lCons (eLst (lCons (eC (.str "later")) (lCons (eC (.str "later")) (lCons (eC (.str "earlier")) (lCons (eC (.str "longer")) (lCons (eC (.str "shorter")) (lNil))))))) (lNil)))) (lCons (eCall f__law_any (lCons (eVar 0) (lCons (eLst (lCons (eC (.int 0)) (lCons (eC (.int 1)) (lCons (eC (.int 2)) (lCons (eC (.int 3)) (lCons (eC (.int 5)) (lNil))))))) (lNil)))) (lNil)))))))
def le__law_steps_0 : E := eCall f__law_step (lCons (eVar 0) (lCons (eVar 1) (lNil)))
def f__law_steps : Fun1 := defF 4 (sRet (eFn gTup (lCons (eLc [3] (.nm 3) (iOf gR1 (lCons (eCall f__law_dip (lCons (eVar 0) (lCons (eOp dAdd (eVar 2) (eC (.int 1))) (lNil)))) (lNil))) (bYes) (le__law_steps_0)) (lNil))))
def f__law_form : Fun1 := defF 2 (sRet (eTup (lCons (eOp gIx (eVar 0) (eC (.int 0))) (lCons (eOp dAdd (eOp gIx (eVar 0) (eC (.int 1))) (eVar 1)) (lNil)))))
def f__law_tests : Fun1 := defF 3 (sSeq (sIf (bVal (eOp dEq (eVar 0) (eC (.str "shift")))) (sRet (eLst (lNil))) (sNx)) (sSeq (sSet 2 (eLstR gR1 (lCons (eVar 1) lNil))) (sRet (eIf (bVal (eOp dEq (eVar 0) (eC (.str "later")))) (eSl (eVar 2) (oSome (eC (.int 1))) (oNone)) (eIf (bVal (eOp dEq (eVar 0) (eC (.str "earlier")))) (eSl (eVar 2) (oNone) (oSome (eUn dNeg (eC (.int 1))))) (eVar 2))))))
def f__law_compared : Fun1 := defF 7 (sSeq (sPar [3, 4] (lCons (eOp gIx (eVar 0) (eC (.int 0))) (lCons (eOp gIx (eVar 0) (eUn dNeg (eC (.int 1)))) (lNil)))) (sSeq (sIf (bVal (eOp dEq (eVar 3) (eC (.str "later")))) (sSeq (sSet 5 (eCall f__law_form (lCons (eOp gIx (eVar 2) (eOp dSub (eOp dMul (eC (.int 2)) (eVar 1)) (eC (.int 1)))) (lCons (eVar 4) (lNil))))) (sRet (eTup (lCons (eVar 5) (lCons (eOp gIx (eVar 2) (eOp dMul (eC (.int 2)) (eVar 1))) (lCons (eOp dMul (eC (.int 2)) (eVar 1)) (lCons (eVar 5) (lNil)))))))) (sNx)) (sSeq (sIf (bVal (eOp dEq (eVar 3) (eC (.str "earlier")))) (sSeq (sSet 6 (eOp gIx (eVar 2) (eOp dAdd (eOp dMul (eC (.int 2)) (eVar 1)) (eC (.int 2))))) (sRet (eTup (lCons (eCall f__law_form (lCons (eOp gIx (eVar 2) (eOp dAdd (eOp dMul (eC (.int 2)) (eVar 1)) (eC (.int 1)))) (lCons (eVar 4) (lNil)))) (lCons (eVar 6) (lCons (eOp dAdd (eOp dMul (eC (.int 2)) (eVar 1)) (eC (.int 1))) (lCons (eCall f__law_form (lCons (eVar 6) (lCons (eUn dNeg (eVar 4)) (lNil)))) (lNil)))))))) (sNx)) (sSeq (sSet 5 (eCall f__law_form (lCons (eOp gIx (eVar 2) (eOp dMul (eC (.int 2)) (eVar 1))) (lCons (eVar 4) (lNil))))) (sSeq (sIf (bVal (eOp dEq (eVar 3) (eC (.str "longer")))) (sRet (eTup (lCons (eVar 5) (lCons (eOp gIx (eVar 2) (eOp dAdd (eOp dMul (eC (.int 2)) (eVar 1)) (eC (.int 1)))) (lCons (eOp dAdd (eOp dMul (eC (.int 2)) (eVar 1)) (eC (.int 1))) (lCons (eVar 5) (lNil))))))) (sNx)) (sRet (eTup (lCons (eOp gIx (eVar 2) (eOp dAdd (eOp dMul (eC (.int 2)) (eVar 1)) (eC (.int 1)))) (lCons (eVar 5) (lCons (eOp dAdd (eOp dMul (eC (.int 2)) (eVar 1)) (eC (.int 1))) (lCons (eVar 5) (lNil))))))))))))
def le__law_base_0 : E := eOp dAdd (eVar 1) (eTup (lCons (eC (.bl false)) (lNil)))
def f__law_base : Fun1 := defF 2 (sRet (eLc [1] (.nm 1) (iSeq (eVar 0)) (bYes) (le__law_base_0)))
def lb__law_shifted_0 : SM := sDrop (eMeth "list" mAppend (eVar 2) (lCons (eCall f__law_form (lCons (eOp gIx (eVar 0) (eVar 3)) (lCons (eIf (bVal (eOp dGe (eVar 3) (eOp dMul (eC (.int 2)) (eOp gIx (eVar 1) (eC (.int 1)))))) (eOp gIx (eVar 1) (eC (.int 2))) (eC (.int 0))) (lNil)))) (lNil)))
def f__law_shifted : Fun1 := defC 4 (sSeq (sCel 2 (eLst (lNil))) (sSeq (sFor (.nm 3) (iOf gR1 (lCons (eFn gLen (lCons (eVar 0) (lNil))) (lNil))) (lb__law_shifted_0)) (sRet (eFn gTup (lCons (eVar 2) (lNil))))))
def f__law_gone : Fun1 := defF 11 (sSeq (sAsg (gtTup [gtName 6, gtName 7, gtName 8, gtName 9]) (eCall f__law_compared (lCons (eVar 1) (lCons (eVar 2) (lCons (eVar 3) (lNil)))))) (sSeq (sIf (bVal (eVar 5)) (sSeq (sSet 10 (eTup (lCons (eOp gIx (eVar 7) (eC (.int 0))) (lCons (eOp gIx (eVar 6) (eC (.int 0))) (lCons (eOp dSub (eOp gIx (eVar 7) (eC (.int 1))) (eOp gIx (eVar 6) (eC (.int 1)))) (lCons (eC (.bl true)) (lNil))))))) (sRet (eTup (lCons (eOp dAdd (eOp dAdd (eSl (eVar 3) (oNone) (oSome (eVar 8))) (eTup (lCons (eVar 9) (lNil)))) (eSl (eVar 3) (oSome (eOp dAdd (eVar 8) (eC (.int 1)))) (oNone))) (lCons (eOp dAdd (eVar 4) (eLst (lCons (eVar 10) (lNil)))) (lNil)))))) (sNx)) (sRet (eTup (lCons (eVar 3) (lCons (eOp dAdd (eVar 4) (eLst (lCons (eTup (lCons (eOp gIx (eVar 6) (eC (.int 0))) (lCons (eOp gIx (eVar 7) (eC (.int 0))) (lCons (eOp dSub (eOp gIx (eVar 6) (eC (.int 1))) (eOp gIx (eVar 7) (eC (.int 1)))) (lCons (eC (.bl false)) (lNil)))))) (lNil)))) (lNil)))))))
def le__law_first_0 : E := eTup (lCons (eVar 1) (lCons (eC (.int 0)) (lNil)))
def f__law_first : Fun1 := defF 2 (sRet (eFn gTup (lCons (eLc [1] (.nm 1) (iOf gR1 (lCons (eOp dMul (eC (.int 2)) (eVar 0)) (lNil))) (bYes) (le__law_first_0)) (lNil))))
def lb__law_led_0 : SM := sAsg (gtTup [gtName 4, gtName 5]) (eCall f__law_gone (lCons (eVar 0) (lCons (eVar 7) (lCons (eVar 8) (lCons (eVar 4) (lCons (eVar 5) (lCons (eMeth "list" mPop0 (eVar 6) (lCons (eC (.int 0)) (lNil))) (lNil))))))))
def lb__law_led_1 : SM := sSeq (sIf (bVal (eOp dEq (eOp gIx (eVar 7) (eC (.int 0))) (eC (.str "shift")))) (sSet 4 (eCall f__law_shifted (lCons (eVar 4) (lCons (eVar 7) (lNil))))) (sNx)) (sFor (.nm 8) (iSeq (eCall f__law_tests (lCons (eOp gIx (eVar 7) (eC (.int 0))) (lCons (eVar 0) (lNil))))) (lb__law_led_0))
def f__law_led : Fun1 := defC 9 (sSeq (sPar [4, 5, 6] (pCons (eCall f__law_first (lCons (eVar 0) (lNil))) (pCons (eCall f__law_base (lCons (eVar 1) (lNil))) (pCel (eFn gLst (lCons (eVar 3) (lNil))) (pNil))))) (sSeq (sFor (.nm 7) (iSeq (eVar 2)) (lb__law_led_1)) (sRet (eTup (lCons (eVar 4) (lCons (eVar 5) (lNil)))))))
def le__law_drawn_word_0 : E := eOp dEq (eCall f__law_dip (lCons (eVar 0) (lCons (eC (.int 2)) (lNil)))) (eC (.int 1))
def lb__law_drawn_word_0 : SM := sSet 3 (eOp dAdd (eVar 3) (eFn gTup (lCons (eLc [5] (.nm 5) (iSeq (eCall f__law_tests (lCons (eOp gIx (eVar 4) (eC (.int 0))) (lCons (eVar 1) (lNil))))) (bYes) (le__law_drawn_word_0)) (lNil))))
def f__law_drawn_word : Fun1 := defF 6 (sSeq (sSet 3 (eTup (lNil))) (sSeq (sFor (.nm 4) (iSeq (eVar 2)) (lb__law_drawn_word_0)) (sRet (eVar 3))))
def lt__law_drawn_ring_0 : EB := bVal (eOp dEq (eOp gIx (eOp gIx (eVar 1) (eVar 5)) (eC (.int 0))) (eOp gIx (eOp gIx (eVar 1) (eOp gIx (eVar 2) (eUn dNeg (eC (.int 1))))) (eC (.int 1))))
def lb__law_drawn_ring_0 : SM := sSeq (sIf (bVal (eOp dEq (eOp gIx (eOp gIx (eVar 1) (eOp gIx (eVar 2) (eUn dNeg (eC (.int 1))))) (eC (.int 1))) (eOp gIx (eOp gIx (eVar 1) (eOp gIx (eVar 2) (eC (.int 0)))) (eC (.int 0))))) (sRet (eFn gTup (lCons (eVar 2) (lNil)))) (sNx)) (sSeq (sSet 4 (eLc [5] (.nm 5) (iOf gR1 (lCons (eFn gLen (lCons (eVar 1) (lNil))) (lNil))) (lt__law_drawn_ring_0) (eVar 5))) (sSeq (sIf (bVal (eOp dEq (eVar 4) (eLst (lNil)))) (sRet (eFn gTup (lCons (eVar 2) (lNil)))) (sNx)) (sDrop (eMeth "list" mAppend (eVar 2) (lCons (eCall f__law_any (lCons (eVar 0) (lCons (eVar 4) (lNil)))) (lNil))))))
def f__law_drawn_ring : Fun1 := defC 6 (sSeq (sCel 2 (eLst (lCons (eCall f__law_dip (lCons (eVar 0) (lCons (eFn gLen (lCons (eVar 1) (lNil))) (lNil)))) (lNil)))) (sSeq (sFor (.nm 3) (iOf gR1 (lCons (eCall f__law_dip (lCons (eVar 0) (lCons (eC (.int 7)) (lNil)))) (lNil))) (lb__law_drawn_ring_0)) (sRet (eFn gTup (lCons (eVar 2) (lNil))))))
def le__law_due_0 : E := eOp gIx (eOp gIx (eVar 0) (eVar 5)) (eC (.int 3))
def lb__law_due_0 : SM := sIf (bVal (eOp dNe (eOp gIx (eOp gIx (eVar 0) (eVar 2)) (eC (.int 1))) (eOp gIx (eOp gIx (eVar 0) (eVar 3)) (eC (.int 0))))) (sRet (eC .non)) (sNx)
def le__law_due_1 : E := eOp gIx (eOp gIx (eVar 0) (eVar 5)) (eC (.int 2))
def f__law_due : Fun1 := defF 6 (sSeq (sFor (.tp [(.nm 2), (.nm 3)]) (iOf gZip (lCons (eVar 1) (lCons (eOp dAdd (eSl (eVar 1) (oSome (eC (.int 1))) (oNone)) (eSl (eVar 1) (oNone) (oSome (eC (.int 1))))) (lNil)))) (lb__law_due_0)) (sSeq (sSet 4 (eFn gSum (lCons (eLc [5] (.nm 5) (iSeq (eVar 1)) (bYes) (le__law_due_1)) (lNil)))) (sRet (eOr (eOp dGt (eVar 4) (eC (.int 0))) (eAnd (eOp dEq (eVar 4) (eC (.int 0))) (eOp dIn (eC (.bl true)) (eLc [5] (.nm 5) (iSeq (eVar 1)) (bYes) (le__law_due_0))))))))
def ll__law_rings_right_0 : E := eCall f_is_ring (lCons (eVar 1) (lCons (eVar 2) (lCons (eVar 3) (lCons (eVar 6) (lNil)))))
def ll__law_rings_right_1 : E := eCall f_is_ring (lCons (eVar 1) (lCons (eVar 2) (lCons (eVar 3) (lCons (eVar 8) (lNil)))))
def lb__law_rings_right_0 : SM := sIf (bVal (eOp dNe (eLamK kn__law_told hs__law_told none (ll__law_rings_right_1)) (eC (.str "ring")))) (sRet (eC (.bl false))) (sNx)
def lb__law_rings_right_1 : SM := sSeq (sIf (bVal (eOp dEq (eVar 4) (eLst (lNil)))) (sRet (eC (.bl true))) (sNx)) (sSeq (sSet 6 (eCall f__law_drawn_ring (lCons (eVar 0) (lCons (eVar 4) (lNil))))) (sSeq (sSet 7 (eCall f__law_due (lCons (eVar 4) (lCons (eVar 6) (lNil))))) (sSeq (sIf (bVal (eOp dNe (eLamK kn__law_told hs__law_told none (ll__law_rings_right_0)) (eIf (bVal (eOp dIsN (eVar 7) (eC .non))) (eC (.str "ring")) (eVar 7)))) (sRet (eC (.bl false))) (sNx)) (sFor (.nm 8) (iSeq (eLst (lCons (eC .non) (lCons (eTup (lNil)) (lCons (eFn gLst (lCons (eVar 6) (lNil))) (lCons (eTup (lCons (eUn dNeg (eC (.int 1))) (lNil))) (lCons (eTup (lCons (eFn gLen (lCons (eVar 4) (lNil))) (lNil))) (lCons (eTup (lCons (eC (.bl true)) (lNil))) (lCons (eSl (eOp dMul (eVar 6) (eC (.int 51))) (oNone) (oSome (eC (.int 51)))) (lNil)))))))))) (lb__law_rings_right_0)))))
def f__law_rings_right : Fun1 := defF 9 (sSeq (sFor (.nm 5) (iOf gR1 (lCons (eC (.int 6)) (lNil))) (lb__law_rings_right_1)) (sRet (eC (.bl true))))
def lt_law_0 : EB := bNot (bVal (eFn gIsi (lCons (eOp gIx (eVar 10) (eC (.int 3))) (lCons (eC (.ty "bool")) (lNil)))))
def ll_law_0 : E := eCallV 13 [("forms", f_forms), ("rows", f_rows)] (lCons (eVar 5) (lCons (eVar 6) (lCons (eVar 11) (lNil))))
def lb_law_0 : SM := sIf (bVal (eOp dNe (eLamK kn__law_told hs__law_told none (ll_law_0)) (eC (.str "word")))) (sRet (eC (.bl false))) (sNx)
def lb_law_1 : SM := sFor (.nm 13) (iSeq (eLst (lCons (eC (.fn "forms")) (lCons (eC (.fn "rows")) (lNil))))) (lb_law_0)
def lb_law_2 : SM := sSeq (sSet 4 (eOp dAdd (eC (.int 1)) (eCall f__law_dip (lCons (eVar 2) (lCons (eC (.int 3)) (lNil)))))) (sSeq (sAsg (gtTup [gtName 5, gtName 6]) (eTup (lCons (eCall f__law_book (lCons (eVar 2) (lCons (eVar 4) (lCons (eC (.int 5)) (lNil))))) (lCons (eCall f__law_steps (lCons (eVar 2) (lCons (eVar 4) (lCons (eC (.int 4)) (lNil))))) (lNil))))) (sSeq (sSet 7 (eCall f__law_drawn_word (lCons (eVar 2) (lCons (eVar 4) (lCons (eVar 6) (lNil)))))) (sSeq (sAsg (gtTup [gtName 8, gtName 9]) (eCall f__law_led (lCons (eVar 4) (lCons (eOp gIx (eVar 5) (eC (.int 1))) (lCons (eVar 6) (lCons (eVar 7) (lNil))))))) (sSeq (sIf (bOr (bVal (eOp dNe (eCall f_forms (lCons (eVar 5) (lCons (eVar 6) (lCons (eVar 7) (lNil))))) (eVar 8))) (bVal (eOp dNe (eCall f_rows (lCons (eVar 5) (lCons (eVar 6) (lCons (eVar 7) (lNil))))) (eVar 9)))) (sRet (eC (.bl false))) (sNx)) (sSeq (sIf (bVal (eOp dNe (eLc [10] (.nm 10) (iSeq (eCall f_rows (lCons (eVar 5) (lCons (eVar 6) (lCons (eVar 7) (lNil)))))) (lt_law_0) (eVar 10)) (eLst (lNil)))) (sRet (eC (.bl false))) (sNx)) (sSeq (sIf (bNot (bVal (eCall f__law_rings_right (lCons (eVar 2) (lCons (eVar 5) (lCons (eVar 6) (lCons (eVar 7) (lCons (eVar 9) (lNil))))))))) (sRet (eC (.bl false))) (sNx)) (sFor (.nm 11) (iSeq (eLst (lCons (eC .non) (lCons (eFn gLst (lCons (eVar 7) (lNil))) (lCons (eOp dAdd (eVar 7) (eTup (lCons (eC (.bl false)) (lNil)))) (lCons (eOp dAdd (eTup (lCons (eC (.str "x")) (lNil))) (eVar 7)) (lCons (eOp dAdd (eFn gTup (lCons (eLc [12] (.nm 12) (iSeq (eVar 7)) (bYes) (eC (.int 1))) (lNil))) (eTup (lCons (eC (.bl true)) (lNil)))) (lNil)))))))) (lb_law_1))))))))
def lb_law_3 : SM := sSeq (sCel 2 (eCall f__law_jar (lCons (eVar 0) (lCons (eVar 1) (lNil))))) (sFor (.nm 3) (iOf gR1 (lCons (eC (.int 2)) (lNil))) (lb_law_2))
def f_law : Fun1 := defC 17 (sSeq (sFor (.nm 1) (iOf gR1 (lCons (eFn gMax2 (lCons (eC (.int 5)) (lCons (eFn gMin2 (lCons (eC (.int 14)) (lCons (eOp dAdd (eFn gLen (lCons (eVar 0) (lNil))) (eC (.int 4))) (lNil)))) (lNil)))) (lNil))) (lb_law_3)) (sSeq (sAsg (gtTup [gtName 14, gtName 12]) (eTup (lCons (eTup (lCons (eC (.int 2)) (lCons (eTup (lCons (eTup (lCons (eC (.int 0)) (lCons (eC (.int 1)) (lCons (eC (.int 2)) (lNil))))) (lCons (eTup (lCons (eC (.int 1)) (lCons (eC (.int 2)) (lCons (eC (.int 1)) (lNil))))) (lCons (eTup (lCons (eC (.int 2)) (lCons (eC (.int 3)) (lCons (eC (.int 2)) (lNil))))) (lNil))))) (lNil)))) (lCons (eTup (lCons (eTup (lCons (eC (.str "later")) (lCons (eC (.int 3)) (lNil)))) (lNil))) (lNil))))) (sSeq (sSet 15 (eTup (lCons (eTup (lCons (eC (.str "shift")) (lCons (eC (.int 1)) (lCons (eC (.int 5)) (lNil))))) (lCons (eTup (lCons (eC (.str "later")) (lCons (eC (.int 2)) (lNil)))) (lCons (eTup (lCons (eC (.str "longer")) (lCons (eC (.int 1)) (lNil)))) (lNil)))))) (sSeq (sIf (bVal (eOp dNe (eCall f_forms (lCons (eTup (lCons (eC (.int 2)) (lCons (eTup (lNil)) (lNil)))) (lCons (eVar 12) (lCons (eTup (lCons (eC (.bl true)) (lNil))) (lNil))))) (eTup (lCons (eTup (lCons (eC (.int 0)) (lCons (eC (.int 0)) (lNil)))) (lCons (eTup (lCons (eC (.int 1)) (lCons (eC (.int 0)) (lNil)))) (lCons (eTup (lCons (eC (.int 1)) (lCons (eC (.int 3)) (lNil)))) (lCons (eTup (lCons (eC (.int 3)) (lCons (eC (.int 0)) (lNil)))) (lNil)))))))) (sRet (eC (.bl false))) (sNx)) (sSeq (sIf (bVal (eOp dNe (eCall f_forms (lCons (eTup (lCons (eC (.int 2)) (lCons (eTup (lNil)) (lNil)))) (lCons (eVar 15) (lCons (eTup (lCons (eC (.bl true)) (lCons (eC (.bl false)) (lCons (eC (.bl true)) (lNil))))) (lNil))))) (eTup (lCons (eTup (lCons (eC (.int 0)) (lCons (eC (.int 0)) (lNil)))) (lCons (eTup (lCons (eC (.int 1)) (lCons (eC (.int 0)) (lNil)))) (lCons (eTup (lCons (eC (.int 1)) (lCons (eC (.int 2)) (lNil)))) (lCons (eTup (lCons (eC (.int 1)) (lCons (eC (.int 3)) (lNil)))) (lNil)))))))) (sRet (eC (.bl false))) (sNx)) (sSeq (sIf (bVal (eOp dNe (eCall f_rows (lCons (eVar 14) (lCons (eVar 12) (lCons (eTup (lCons (eC (.bl true)) (lNil))) (lNil))))) (eLst (lCons (eTup (lCons (eC (.int 0)) (lCons (eC (.int 1)) (lCons (eC (.int 2)) (lCons (eC (.bl false)) (lNil)))))) (lCons (eTup (lCons (eC (.int 1)) (lCons (eC (.int 2)) (lCons (eC (.int 1)) (lCons (eC (.bl false)) (lNil)))))) (lCons (eTup (lCons (eC (.int 2)) (lCons (eC (.int 3)) (lCons (eC (.int 2)) (lCons (eC (.bl false)) (lNil)))))) (lCons (eTup (lCons (eC (.int 2)) (lCons (eC (.int 1)) (lCons (eUn dNeg (eC (.int 3))) (lCons (eC (.bl true)) (lNil)))))) (lNil)))))))) (sRet (eC (.bl false))) (sNx)) (sSeq (sIf (bVal (eOp dNe (eCall f_rows (lCons (eTup (lCons (eC (.int 2)) (lCons (eTup (lNil)) (lNil)))) (lCons (eTup (lCons (eTup (lCons (eC (.str "longer")) (lCons (eC (.int 4)) (lNil)))) (lNil))) (lCons (eTup (lCons (eC (.bl false)) (lCons (eC (.bl true)) (lNil)))) (lNil))))) (eLst (lCons (eTup (lCons (eC (.int 0)) (lCons (eC (.int 1)) (lCons (eC (.int 4)) (lCons (eC (.bl false)) (lNil)))))) (lCons (eTup (lCons (eC (.int 3)) (lCons (eC (.int 2)) (lCons (eUn dNeg (eC (.int 4))) (lCons (eC (.bl true)) (lNil)))))) (lNil)))))) (sRet (eC (.bl false))) (sNx)) (sSeq (sIf (bVal (eOp dNe (eCall f_rows (lCons (eTup (lCons (eC (.int 1)) (lCons (eTup (lNil)) (lNil)))) (lCons (eTup (lCons (eTup (lCons (eC (.str "shorter")) (lCons (eC (.int 4)) (lNil)))) (lNil))) (lCons (eTup (lCons (eC (.bl true)) (lNil))) (lNil))))) (eLst (lCons (eTup (lCons (eC (.int 0)) (lCons (eC (.int 1)) (lCons (eC (.int 4)) (lCons (eC (.bl true)) (lNil)))))) (lNil))))) (sRet (eC (.bl false))) (sNx)) (sSeq (sSet 16 (eLst (lCons (eCall f_is_ring (lCons (eVar 14) (lCons (eTup (lCons (eTup (lCons (eC (.str "later")) (lCons (eC (.int 1)) (lNil)))) (lNil))) (lCons (eTup (lCons (eC (.bl true)) (lNil))) (lCons (eTup (lCons (eC (.int 1)) (lCons (eC (.int 3)) (lNil)))) (lNil)))))) (lCons (eCall f_is_ring (lCons (eTup (lCons (eC (.int 1)) (lCons (eTup (lCons (eTup (lCons (eC (.int 0)) (lCons (eC (.int 1)) (lCons (eC (.int 2)) (lNil))))) (lCons (eTup (lCons (eC (.int 1)) (lCons (eC (.int 0)) (lCons (eUn dNeg (eC (.int 1))) (lNil))))) (lNil)))) (lNil)))) (lCons (eTup (lNil)) (lCons (eTup (lNil)) (lCons (eTup (lCons (eC (.int 0)) (lCons (eC (.int 1)) (lNil)))) (lNil)))))) (lNil))))) (sRet (eOp dEq (eOp dAdd (eVar 16) (eLst (lCons (eCall f_is_ring (lCons (eTup (lCons (eC (.int 1)) (lCons (eTup (lCons (eTup (lCons (eC (.int 0)) (lCons (eC (.int 1)) (lCons (eC (.int 2)) (lNil))))) (lCons (eTup (lCons (eC (.int 1)) (lCons (eC (.int 0)) (lCons (eUn dNeg (eC (.int 2))) (lNil))))) (lNil)))) (lNil)))) (lCons (eTup (lNil)) (lCons (eTup (lNil)) (lCons (eTup (lCons (eC (.int 0)) (lCons (eC (.int 1)) (lNil)))) (lNil)))))) (lNil)))) (eLst (lCons (eC (.bl true)) (lCons (eC (.bl true)) (lCons (eC (.bl false)) (lNil))))))))))))))))
end G

end
section
namespace G
open PySem PySem.Spec L2
theorem dip_ok {n : Nat} {s : Sto} {w : Int} (h : Jar n s) (h0 : 0 < w) (h1 : w < 1073741824) : ∃ r s', f__law_dip [.cel n, .int w] s = .ok (.int r) s' ∧ 0 ≤ r ∧ r < w ∧ Jr n s s' := by
  obtain ⟨a, b, h, ha, hb, hb2⟩ := h
  by_cases ha0 : 0 < a
  · refine ⟨a % w, setCel s n [.int (a / w), .int b], ?_, Int.emod_nonneg _ (by omega), Int.emod_lt_of_pos _ h0, .set h (Int.ediv_nonneg ha (by omega)) hb hb2⟩
    have q1 : putCel s (.cel n) (.int 0) (.int (a / w)) = some (setCel s n [.int (a / w), .int b]) := putCel_0 h rfl
    simp [f__law_dip, defF_ap, gIx_cel h, ha0, dMod_ii h0, dFdiv_ii h0 h1, q1]
  · have hm : (b * 47711 + 6007) % 2147477857 < 2147477857 := Int.emod_lt_of_pos _ (by decide)
    have hm0 : 0 ≤ (b * 47711 + 6007) % 2147477857 := Int.emod_nonneg _ (by decide)
    generalize hc : (b * 47711 + 6007) % 2147477857 = c at hm hm0
    refine ⟨(c * (c / 67 + 47)) % 2147477851 / 31 % w, setCel s n [.int a, .int c], ?_, Int.emod_nonneg _ (by omega), Int.emod_lt_of_pos _ h0, .set h ha hm0 (by omega)⟩
    have q1 : putCel s (.cel n) (.int 1) (.int c) = some (setCel s n [.int a, .int c]) := putCel_1 h rfl
    have g1 : (setCel s n [.int a, .int c]).cel[n]? = some [.int a, .int c] := setCel_at h
    have m1 : dMul s (.int b) (.int 47711) = some (.int (b * 47711)) := dMul_ii (by omega) (by omega)
    have m2 : dMul (setCel s n [.int a, .int c]) (.int c) (.int (c / 67 + 47)) = some (.int (c * (c / 67 + 47))) := dMul_ii (by omega) (by omega)
    simp [f__law_dip, defF_ap, gIx_cel h, ha0, gIx_cel g1, m1, m2, dMod_ii, dFdiv_ii, hc, q1, h0]
theorem any_ok {n : Nat} {s : Sto} {l : List D} (h : Jar n s) (h0 : l ≠ []) (h1 : l.length < 1073741824) : ∃ d s', f__law_any [.cel n, .lst l] s = .ok d s' ∧ d ∈ l ∧ Jr n s s' := by
  have hl : 0 < l.length := List.length_pos_iff.mpr h0
  obtain ⟨r, s', e, r0, r1, j⟩ := dip_ok (w := (l.length : Int)) h (by omega) (by omega)
  have hr : r.toNat < l.length := by omega
  refine ⟨l[r.toNat], s', ?_, List.getElem_mem hr, j⟩
  have q : atI l r = some l[r.toNat] := by rw [atI_nat r0 r1, List.getElem?_eq_getElem hr]
  simp [f__law_any, defF_ap, e, q]
/-! the greatest common part -/
theorem low_loop {c : EB} {b : SM} (hbd : b = sPar [2, 3] (lCons (eVar 3) (lCons (eOp dMod (eVar 2) (eVar 3)) lNil))) (hc : ∀ (x y a b : D) (s : Sto) (i j : Int), 0 ≤ j → c [some x, some y, some (.int i), some (.int j)] s = .ok (decide (j ≠ 0)) s) : ∀ (m : Nat) (i j : Int) (x y : D) (s : Sto), 0 ≤ i → 0 ≤ j → j < m → ∃ j', whileN c b m [some x, some y, some (.int i), some (.int j)] s = .ok .nx [some x, some y, some (.int (Int.gcd i j)), some j'] s
  | 0, i, j, x, y, s, hi, hj, hm => by omega
  | m + 1, i, j, x, y, s, hi, hj, hm => by
    unfold whileN
    rw [hc x y x y s i j hj]
    by_cases h0 : j = 0
    · subst h0
      refine ⟨.int 0, ?_⟩
      have e : ((Int.gcd i 0 : Nat) : Int) = i := by rw [Int.gcd_zero_right]; omega
      simp
      omega
    · have hj0 : 0 < j := by omega
      have l1 := Int.emod_lt_of_pos i hj0
      have l0 := Int.emod_nonneg i (by omega : j ≠ 0)
      obtain ⟨j', e⟩ := low_loop hbd hc m j (i % j) x y s hj l0 (by omega)
      have eg : Int.gcd j (i % j) = Int.gcd i j := by
        obtain ⟨a, rfl⟩ := Int.eq_ofNat_of_zero_le hi
        obtain ⟨b, rfl⟩ := Int.eq_ofNat_of_zero_le hj
        rw [← Int.natCast_emod, Int.gcd_natCast_natCast, Int.gcd_natCast_natCast, Nat.gcd_comm a b, Nat.gcd_rec b a, Nat.gcd_comm]
      rw [eg] at e
      refine ⟨j', ?_⟩
      subst hbd
      simp [h0, dMod_ii hj0, e]
def lowT (i j : Int) : D := .tup [.int (i / (Int.gcd i j : Nat)), .int (j / (Int.gcd i j : Nat))]
theorem gcd_pos {i j : Int} (h : 0 < j) : 0 < (Int.gcd i j : Int) := by
  have := Int.gcd_pos_of_ne_zero_right i (by omega : j ≠ 0)
  omega
theorem gcd_le {i j : Int} (h : 0 < j) : (Int.gcd i j : Int) ≤ j := by
  have := Int.gcd_dvd_right i j
  exact Int.le_of_dvd h this
theorem low_ok {s : Sto} {i j : Int} (h0 : 0 < j) (h1 : j < 2 ^ 64) : f__law_low [.int i, .int j] s = .ok (lowT i j) s := by
  have hi : 0 ≤ (if i < 0 then -i else i) := by split <;> omega
  obtain ⟨j', e⟩ := low_loop (c := wc__law_low_0) (b := wb__law_low_0) rfl (fun x y a b s i j hj => by
    have : (0 < j) = ¬ (j = 0) := propext ⟨fun _ => by omega, fun _ => by omega⟩
    simp [wc__law_low_0, this]) (j.toNat + 1) (if i < 0 then -i else i) j (.int i) (.int j) s hi (by omega) (by omega)
  have eg : Int.gcd (if i < 0 then -i else i) j = Int.gcd i j := by split <;> simp
  rw [eg] at e
  have p := gcd_pos (i := i) h0
  have l := gcd_le (i := i) h0
  unfold f__law_low
  rw [defF_ap]
  simp [wfuel, e, dFdiv_wide p (by omega), lowT]
theorem lowest_ok {s : Sto} {i j : Int} (h0 : 0 < j) (h1 : j < 2 ^ 64) : f_lowest [.int i, .int j] s = .ok (lowT i j) s := by
  have hi : 0 ≤ (if i < 0 then -i else i) := by split <;> omega
  obtain ⟨j', e⟩ := low_loop (c := wc_lowest_0) (b := wb_lowest_0) rfl (fun x y a b s i j hj => by
    simp [wc_lowest_0, dNe]
    by_cases h : j = 0 <;> simp [h]) (j.toNat + 1) (if i < 0 then -i else i) j (.int i) (.int j) s hi (by omega) (by omega)
  have eg : Int.gcd (if i < 0 then -i else i) j = Int.gcd i j := by split <;> simp
  rw [eg] at e
  have p := gcd_pos (i := i) h0
  have l := gcd_le (i := i) h0
  unfold f_lowest
  rw [defF_ap]
  simp [wfuel, e, dFdiv_wide p (by omega), lowT]
end G

end
section
namespace G
open PySem PySem.Spec L2
/-! ### the checks, as plain answers -/
def strsOk : List Str := ["", "later", "earlier", "longer", "shorter", "shift", "Later", "LATER", "EARLIER", "LONGER", "SHORTER", "SHIFT"]
/-- data, of known texts, at most so deep -/
def okT : Nat → D → Prop
  | _, .non => True
  | _, .bl _ => True
  | _, .int _ => True
  | _, .str x => x ∈ strsOk
  | n + 1, .tup l => l.length ≤ 20 + n ∧ ∀ y ∈ l, okT n y
  | n + 1, .lst l => l.length ≤ 20 + n ∧ ∀ y ∈ l, okT n y
  | _, _ => False
theorem okT.suc : ∀ {n : Nat} {d : D}, okT n d → okT (n + 1) d
  | _, .non, _ => trivial
  | _, .bl _, _ => trivial
  | _, .int _, _ => trivial
  | _, .str _, h => by unfold okT at h ⊢; exact h
  | n + 1, .tup l, h => by
    unfold okT at h ⊢
    exact ⟨by omega, fun y hy => okT.suc (h.2 y hy)⟩
  | n + 1, .lst l, h => by
    unfold okT at h ⊢
    exact ⟨by omega, fun y hy => okT.suc (h.2 y hy)⟩
  | 0, .tup _, h => by unfold okT at h; exact h.elim
  | 0, .lst _, h => by unfold okT at h; exact h.elim
  | _, .cel _, h => by unfold okT at h; exact h.elim
  | _, .obj _, h => by unfold okT at h; exact h.elim
  | _, .fn _, h => by unfold okT at h; exact h.elim
  | _, .ty _, h => by unfold okT at h; exact h.elim
  | _, .scr _, h => by unfold okT at h; exact h.elim
theorem okT.le {n m : Nat} {d : D} (h : okT n d) (hm : n ≤ m) : okT m d := by
  induction hm with
  | refl => exact h
  | step _ ih => exact ih.suc
theorem strs_ok : ∀ x ∈ strsOk, PyData.strOk x = true := by decide +kernel
theorem isDataL_of : ∀ {l : List D}, (∀ y ∈ l, isData y = true) → isDataL l = true
  | [], _ => by simp [isDataL]
  | d :: l, h => by
    simp only [isDataL, h d (List.mem_cons_self ..), isDataL_of fun y hy => h y (List.mem_cons_of_mem _ hy), Bool.and_self]
theorem depthL_of {n : Nat} : ∀ {l : List D}, (∀ y ∈ l, depthD y ≤ n) → depthL l ≤ n
  | [], _ => by simp [depthL]
  | d :: l, h => by
    have h1 := h d (List.mem_cons_self ..)
    have h2 := depthL_of (n := n) (l := l) fun y hy => h y (List.mem_cons_of_mem _ hy)
    simp only [depthL]
    omega
theorem okT.data : ∀ {n : Nat} {d : D}, okT n d → isData d = true ∧ depthD d ≤ n
  | _, .non, _ => by simp [isData, depthD]
  | _, .bl _, _ => by simp [isData, depthD]
  | _, .int _, _ => by simp [isData, depthD]
  | _, .str x, h => by
    unfold okT at h
    simp [isData, depthD, strs_ok x h]
  | n + 1, .tup l, h => by
    unfold okT at h
    simp only [isData, depthD]
    exact ⟨isDataL_of fun y hy => (okT.data (h.2 y hy)).1, Nat.succ_le_succ (depthL_of fun y hy => (okT.data (h.2 y hy)).2)⟩
  | n + 1, .lst l, h => by
    unfold okT at h
    simp only [isData, depthD]
    exact ⟨isDataL_of fun y hy => (okT.data (h.2 y hy)).1, Nat.succ_le_succ (depthL_of fun y hy => (okT.data (h.2 y hy)).2)⟩
  | 0, .tup _, h => by unfold okT at h; exact h.elim
  | 0, .lst _, h => by unfold okT at h; exact h.elim
  | _, .cel _, h => by unfold okT at h; exact h.elim
  | _, .obj _, h => by unfold okT at h; exact h.elim
  | _, .fn _, h => by unfold okT at h; exact h.elim
  | _, .ty _, h => by unfold okT at h; exact h.elim
  | _, .scr _, h => by unfold okT at h; exact h.elim
theorem okT.ok {n : Nat} {d : D} (h : okT n d) (hn : n ≤ 60) : okD d = true := by
  have := h.data
  unfold okD
  simp only [this.1, Bool.true_and, decide_eq_true_eq]
  omega
theorem okT_tup {n : Nat} {l : List D} (h : okT (n + 1) (.tup l)) : ∀ y ∈ l, okT n y := by unfold okT at h; exact h.2
theorem okT_tupL {n : Nat} {l : List D} (h : okT (n + 1) (.tup l)) : l.length ≤ 20 + n := by unfold okT at h; exact h.1
theorem okT_fil {n : Nat} {l : List D} {g : D → Bool} (h : okT (n + 1) (.tup l)) : okT (n + 1) (.lst (l.filter g)) := by
  unfold okT at h ⊢
  exact ⟨Nat.le_trans (List.length_filter_le ..) h.1, fun y hy => h.2 y (List.mem_filter.mp hy).1⟩
theorem okT_lst {n : Nat} {l : List D} (h : okT (n + 1) (.lst l)) : ∀ y ∈ l, okT n y := by unfold okT at h; exact h.2
def isFrom (d : D) (lo hi : Int) : Bool := match d with
  | .int i => decide (lo ≤ i ∧ i ≤ hi)
  | _ => false
def dta (d : D) : Prop := ∃ a, tyN d = some a
theorem okT.isD {n : Nat} {d : D} (h : okT n d) : dta d := by
  cases d <;> first | exact ⟨_, rfl⟩ | (unfold okT at h; exact h.elim)
@[simp] theorem isi_int {s : Sto} {d : D} {T : String} : gIsi s [d, .ty T] = (tyN d).bind fun a => (isiB a T).map .bl := rfl
theorem is_from_ok {s : Sto} {d : D} {lo hi : Int} (h : dta d) : f_is_from [d, .int lo, .int hi] s = .ok (.bl (isFrom d lo hi)) s := by
  obtain ⟨a, h⟩ := h
  cases d <;> simp [tyN] at h <;> simp [f_is_from, defF_ap, tyN, isiB, isFrom]
  rename_i i
  by_cases h1 : lo ≤ i <;> simp [h1]
theorem isFrom_eq {d : D} {lo hi : Int} (h : isFrom d lo hi = true) : ∃ i, d = .int i ∧ lo ≤ i ∧ i ≤ hi := by
  cases d <;> simp [isFrom] at h
  exact ⟨_, rfl, h⟩
def isGap (c : Int) (d : D) : Bool := match d with
  | .tup [a, b, e] => isFrom a 0 (2 * c - 1) && isFrom b 0 (2 * c - 1) && !(deq a b) && isFrom e (-1000) 1000
  | _ => false
theorem lcL_c {t : EB} {f : E} {env : Env} {i : Nat} {d : D} {ds : List D} {s : Sto} (h : t = bYes) : lcL (.nm i) t f env (d :: ds) s = (match f (env.set i (some d)) s with
    | .ok y s2 => (lcL (.nm i) t f env ds s2).bind fun ys s3 => .ok (y :: ys) s3
    | _ => .bad) := by
  subst h
  conv => lhs; unfold lcL
  simp only [Pat.bind, bYes_ap] <;> rfl
@[simp] theorem lcL_n {p : Pat} {t : EB} {f : E} {env : Env} {s : Sto} : lcL p t f env [] s = .ok [] s := rfl
theorem is_gap_ok {s : Sto} {c : Int} {n : Nat} {d : D} (h : okT n d) (hn : n ≤ 60) (hc : -1000 < c ∧ c < 1000) : f_is_gap [.int c, d] s = .ok (.bl (isGap c d)) s := by
  cases d with
  | tup l =>
    cases n with
    | zero => unfold okT at h; exact h.elim
    | succ n =>
    have h := okT_tup h
    rcases l with _ | ⟨a, _ | ⟨b, _ | ⟨e, _ | ⟨f, r⟩⟩⟩⟩
    · simp [f_is_gap, defF_ap, tyN, isiB, dNe, isGap]
    · simp [f_is_gap, defF_ap, tyN, isiB, dNe, isGap]
    · simp [f_is_gap, defF_ap, tyN, isiB, dNe, isGap]
    · have ha : okT n a := h a (by simp)
      have hb : okT n b := h b (by simp)
      have he : okT n e := h e (by simp)
      have g1 : ∀ s, gSl s (.tup [a, b, e]) none (some 2) = some (.tup [a, b]) := fun _ => rfl
      have m1 : ∀ s, dMul s (.int 2) (.int c) = some (.int (2 * c)) := fun _ => dMul_ii (by omega) (by omega)
      have oa := ha.ok (by omega)
      have ob := hb.ok (by omega)
      have da : ∀ s, deref s a = a := fun _ => by cases a <;> first | rfl | (unfold okT at ha; exact ha.elim)
      have db : ∀ s, deref s b = b := fun _ => by cases b <;> first | rfl | (unfold okT at hb; exact hb.elim)
      have hall : ∀ x y : Bool, gAll s [.lst [.bl x, .bl y]] = some (.bl (x && y)) := fun x y => by
        cases x <;> cases y <;> rfl
      have hcall : ∀ s, f_is_from [e, .int (-1000), .int 1000] s = .ok (.bl (isFrom e (-1000) 1000)) s := fun s => is_from_ok he.isD
      cases e1 : isFrom a 0 (2 * c - 1) <;> cases e2 : isFrom b 0 (2 * c - 1) <;> cases e3 : deq a b <;>
      simp [f_is_gap, defF_ap, tyN, isiB, dNe, dEq, isGap, g1, le_is_gap_0, lcL_c, m1, is_from_ok ha.isD, is_from_ok hb.isD, hall, hcall, oa, ob, da, db, e1, e2, e3]
    · have : ¬ ((r.length : Int) + 1 + 1 + 1 + 1 = 3) := by omega
      simp [f_is_gap, defF_ap, tyN, isiB, dNe, isGap, this]
  | _ => first | (unfold okT at h; exact h.elim) | simp [f_is_gap, defF_ap, tyN, isiB, isGap]
theorem okT.deref {n : Nat} {a : D} (ha : okT n a) (s : Sto) : G.deref s a = a := by cases a <;> first | rfl | (unfold okT at ha; exact ha.elim)
def cOf : D → Int
  | .int i => i
  | _ => 0
def gapsOk (c : Int) (d : D) : Bool := match d with
  | .tup l => decide (l.length ≤ 6) && l.all (isGap c)
  | _ => false
def isBook (d : D) : Bool := match d with
  | .tup [a, b] => isFrom a 1 3 && gapsOk (cOf a) b
  | _ => false
theorem isFrom_c {d : D} {lo hi : Int} (h : isFrom d lo hi = true) : d = .int (cOf d) ∧ lo ≤ cOf d ∧ cOf d ≤ hi := by
  obtain ⟨i, e, h'⟩ := isFrom_eq h
  subst e
  exact ⟨rfl, h'⟩
theorem deq_filter {g : D → Bool} {l : List D} : deqL (l.filter fun x => !(g x)) [] = l.all g := by
  induction l with
  | nil => simp
  | cons d l ih => cases e : g d <;> simp [e, ih]
theorem good_book_ok {s : Sto} {n : Nat} {d : D} (h : okT n d) (hn : n ≤ 60) : f_is_good_book [d] s = .ok (.bl (isBook d)) s := by
  cases d with
  | tup l =>
    cases n with
    | zero => unfold okT at h; exact h.elim
    | succ n =>
    have h := okT_tup h
    rcases l with _ | ⟨a, _ | ⟨b, _ | ⟨e, r⟩⟩⟩
    · simp [f_is_good_book, defF_ap, tyN, isiB, dNe, isBook]
    · simp [f_is_good_book, defF_ap, tyN, isiB, dNe, isBook]
    · have ha : okT n a := h a (by simp)
      have hb : okT n b := h b (by simp)
      have hcall : ∀ s, f_is_from [a, .int 1, .int 3] s = .ok (.bl (isFrom a 1 3)) s := fun s => is_from_ok ha.isD
      cases e1 : isFrom a 1 3
      · simp [f_is_good_book, defF_ap, tyN, isiB, dNe, isBook, hcall, e1]
      · obtain ⟨ea, a1, a2⟩ := isFrom_c e1
        cases b with
        | tup l =>
          cases n with
          | zero => unfold okT at hb; exact hb.elim
          | succ n =>
          have hbT := hb
          have hb := okT_tup hb
          by_cases hl : l.length ≤ 6
          · have hl' : ¬ ((6 : Int) < l.length) := by omega
            have key : ∀ s, lcL (.nm 1) bYes le_is_good_book_0 [some (.tup [a, .tup l]), none] l s = .ok (l.map fun x => .bl (isGap (cOf a) x)) s := fun s =>
              lc_map fun x hx => by
                have := is_gap_ok (s := s) (c := cOf a) (hb x hx) (by omega) (by omega)
                rw [← ea] at this
                simp [le_is_good_book_0, this]
            simp [f_is_good_book, defF_ap, tyN, isiB, dNe, isBook, hcall, e1, hl, hl', key, gAll_map, gapsOk]
          · have hl' : ((6 : Int) < l.length) := by omega
            simp [f_is_good_book, defF_ap, tyN, isiB, dNe, isBook, gapsOk, hcall, e1, hl, hl']
        | _ => first | (unfold okT at hb; exact hb.elim) | simp [f_is_good_book, defF_ap, tyN, isiB, dNe, isBook, gapsOk, hcall, e1]
    · have : ¬ ((r.length : Int) + 1 + 1 + 1 = 2) := by omega
      simp [f_is_good_book, defF_ap, tyN, isiB, dNe, this, isBook]
  | _ => first | (unfold okT at h; exact h.elim) | simp [f_is_good_book, defF_ap, tyN, isiB, isBook]
def words4 : List D := [.str "later", .str "earlier", .str "longer", .str "shorter"]
def isStep (c : Int) (d : D) : Bool := match d with
  | .tup (.str x :: r) => if x = "shift" then (match r with
      | [a, b] => isFrom a 0 (c - 1) && isFrom b (-1000) 1000
      | _ => false) else (words4.any fun z => deq z (.str x)) && (match r with
      | [a] => isFrom a 0 1000
      | _ => false)
  | _ => false
theorem okD_w4 : okD (.tup words4) = true := by decide +kernel
theorem okD_w4l : okD (.lst words4) = true := by decide +kernel
theorem dIn_w4 {s : Sto} {x : Str} (h : okD (.str x) = true) : dIn s (.str x) (.tup [.str "later", .str "earlier", .str "longer", .str "shorter"]) = some (.bl (words4.any fun z => deq z (.str x))) := by
  have e : okD (.tup [.str "later", .str "earlier", .str "longer", .str "shorter"]) = true := okD_w4
  unfold dIn dInB
  simp only [deref_tup, h, e, Bool.and_self, if_true]
  rfl
theorem dIn_w4l {s : Sto} {x : Str} (h : okD (.str x) = true) : dIn s (.str x) (.lst [.str "later", .str "earlier", .str "longer", .str "shorter"]) = some (.bl (words4.any fun z => deq z (.str x))) := by
  have e : okD (.lst [.str "later", .str "earlier", .str "longer", .str "shorter"]) = true := okD_w4l
  unfold dIn dInB
  simp only [deref_lst, h, e, Bool.and_self, if_true]
  rfl
theorem okD_shift : okD (.str "shift") = true := by decide +kernel
theorem is_step_ok {s : Sto} {c : Int} {n : Nat} {d : D} (h : okT n d) (hn : n ≤ 60) : f_is_step [.int c, d] s = .ok (.bl (isStep c d)) s := by
  have hd := h.ok hn
  cases d with
  | tup l =>
    cases n with
    | zero => unfold okT at h; exact h.elim
    | succ n =>
    have h := okT_tup h
    cases l with
    | nil => simp [f_is_step, defF_ap, tyN, isiB, dEq, isStep]
    | cons a r =>
      have ha : okT n a := h a (by simp)
      cases a with
      | str x =>
        have hx := ha.ok (by omega : n ≤ 60)
        by_cases e : x = "shift"
        · subst e
          rcases r with _ | ⟨b, _ | ⟨c2, _ | ⟨f, r⟩⟩⟩
          · simp [f_is_step, defF_ap, tyN, isiB, dEq, isStep, hd, hx]
          · simp [f_is_step, defF_ap, tyN, isiB, dEq, isStep, hd, hx]
          · have hb : okT n b := h b (by simp)
            have hc2 : okT n c2 := h c2 (by simp)
            have hcall : ∀ s, f_is_from [c2, .int (-1000), .int 1000] s = .ok (.bl (isFrom c2 (-1000) 1000)) s := fun s => is_from_ok hc2.isD
            cases e1 : isFrom b 0 (c - 1) <;> simp [f_is_step, defF_ap, tyN, isiB, dEq, isStep, hd, hx, is_from_ok hb.isD, hcall, e1]
          · have : ¬ ((r.length : Int) + 1 + 1 + 1 + 1 = 3) := by omega
            simp [f_is_step, defF_ap, tyN, isiB, dEq, isStep, hd, hx, this]
        · have hw := fun s => dIn_w4 (s := s) hx
          cases e2 : (words4.any fun z => deq z (.str x))
          · simp [f_is_step, defF_ap, tyN, isiB, dEq, isStep, hd, hx, okD_shift, e, hw, e2]
          · rcases r with _ | ⟨b, _ | ⟨c2, r⟩⟩
            · simp [f_is_step, defF_ap, tyN, isiB, dEq, isStep, hd, hx, okD_shift, e, hw, e2]
            · have hb : okT n b := h b (by simp)
              have hcall : ∀ s, f_is_from [b, .int 0, .int 1000] s = .ok (.bl (isFrom b 0 1000)) s := fun s => is_from_ok hb.isD
              simp [f_is_step, defF_ap, tyN, isiB, dEq, isStep, hd, hx, okD_shift, e, hw, e2, hcall]
            · have : ¬ ((r.length : Int) + 1 + 1 + 1 = 2) := by omega
              simp [f_is_step, defF_ap, tyN, isiB, dEq, isStep, hd, hx, okD_shift, e, hw, e2, this]
      | _ => first | (unfold okT at ha; exact ha.elim) | simp [f_is_step, defF_ap, tyN, isiB, dEq, isStep, hd]
  | _ => first | (unfold okT at h; exact h.elim) | simp [f_is_step, defF_ap, tyN, isiB, isStep]
theorem for_all {body : SM} {i : Nat} {g : D → Bool} {I : Env → Prop} {s : Sto} : ∀ {ds : List D} {env : Env}, I env → (∀ d ∈ ds, ∀ env, I env → ∃ env', body (env.set i (some d)) s = (if g d = true then .ok .nx env' s else .ok (.rt (.bl false)) env' s) ∧ I env') → ∃ env', forL (.nm i) body ds env s = (if ds.all g = true then .ok .nx env' s else .ok (.rt (.bl false)) env' s)
  | [], env, _, _ => ⟨env, rfl⟩
  | d :: ds, env, hI, h => by
    obtain ⟨env1, e1, i1⟩ := h d (List.mem_cons_self ..) env hI
    cases e : g d
    · refine ⟨env1, ?_⟩
      unfold forL
      simp [Pat.bind, e1, e]
    · obtain ⟨env2, e2⟩ := for_all (ds := ds) i1 fun z hz => h z (List.mem_cons_of_mem _ hz)
      refine ⟨env2, ?_⟩
      unfold forL
      simp [Pat.bind, e1, e, e2]
def isScript (c : Int) (d : D) : Bool := match d with
  | .tup l => decide (l.length ≤ 5) && l.all (isStep c)
  | _ => false
theorem good_script_ok {s : Sto} {c : Int} {n : Nat} {d : D} (h : okT n d) (hn : n ≤ 60) : f_is_good_script [.int c, d] s = .ok (.bl (isScript c d)) s := by
  cases d with
  | tup l =>
    cases n with
    | zero => unfold okT at h; exact h.elim
    | succ n =>
    have hT := h
    have h := okT_tup h
    by_cases hl : l.length ≤ 5
    · have hl' : ((l.length : Int) ≤ 5) := by omega
      have key : ∀ s, lcL (.nm 2) bYes le_is_good_script_0 [some (.int c), some (.tup l), none] l s = .ok (l.map fun x => .bl (isStep c x)) s := fun s =>
        lc_map fun x hx => by
          have := is_step_ok (s := s) (c := c) (h x hx) (by omega)
          simp [le_is_good_script_0, this]
      simp [f_is_good_script, defF_ap, tyN, isiB, isScript, hl, hl', key, gAll_map]
    · have hl' : ¬ ((l.length : Int) ≤ 5) := by omega
      simp [f_is_good_script, defF_ap, tyN, isiB, isScript, hl, hl']
  | _ => first | (unfold okT at h; exact h.elim) | simp [f_is_good_script, defF_ap, tyN, isiB, isScript]
@[simp] theorem okT_int {n : Nat} {i : Int} : okT n (.int i) := by cases n <;> trivial
@[simp] theorem okT_bl {n : Nat} {i : Bool} : okT n (.bl i) := by cases n <;> trivial
@[simp] theorem okT_non {n : Nat} : okT n .non := by cases n <;> trivial
theorem okT_str {n : Nat} {x : Str} (h : x ∈ strsOk) : okT n (.str x) := by cases n <;> exact h
theorem okT_tupI {n : Nat} {l : List D} (h : ∀ y ∈ l, okT n y) (hl : l.length ≤ 20 + n := by first | (simp; done) | (simp; omega)) : okT (n + 1) (.tup l) := by unfold okT; exact ⟨hl, h⟩
theorem okT_lstI {n : Nat} {l : List D} (h : ∀ y ∈ l, okT n y) (hl : l.length ≤ 20 + n := by first | (simp; done) | (simp; omega)) : okT (n + 1) (.lst l) := by unfold okT; exact ⟨hl, h⟩
theorem okT_pair {n : Nat} {a b : D} (ha : okT n a) (hb : okT n b) : okT (n + 1) (.tup [a, b]) := okT_tupI (by simp [ha, hb])
end G

end
section
namespace G
open PySem PySem.Spec L2
/-- one of a list of whole numbers -/
theorem any_int {n : Nat} {s : Sto} {l : List Int} (h : Jar n s) (h0 : l ≠ []) (h1 : l.length < 1073741824) : ∃ i s', f__law_any [.cel n, .lst (l.map .int)] s = .ok (.int i) s' ∧ i ∈ l ∧ Jr n s s' := by
  obtain ⟨d, s', e, hd, j⟩ := any_ok (l := l.map .int) h (by simpa using h0) (by simpa using h1)
  obtain ⟨i, hi, e2⟩ := List.mem_map.mp hd
  subst e2
  exact ⟨i, s', e, hi, j⟩
/-- a moment, as drawn -/
def isMom (d : D) : Prop := ∃ t b : Int, d = .tup [.int t, .int b] ∧ -50 ≤ t ∧ t ≤ 50 ∧ 1 ≤ b ∧ b ≤ 3
theorem ediv_bd {i g : Int} (hg : 0 < g) (h : -50 ≤ i ∧ i ≤ 50) : -50 ≤ i / g ∧ i / g ≤ 50 := by
  refine ⟨(Int.le_ediv_iff_mul_le hg).mpr (by omega), ?_⟩
  have := Int.ediv_le_self (a := 50) g (by omega)
  have h2 : i / g ≤ 50 / g := Int.ediv_le_ediv hg h.2
  omega
theorem div_gcd_pos {i j : Int} (h : 0 < j) : 0 < j / (Int.gcd i j : Int) := by
  have p := gcd_pos (i := i) h
  have d := Int.gcd_dvd_right i j
  have := Int.ediv_mul_cancel d
  rcases Int.lt_or_le 0 (j / (Int.gcd i j : Int)) with q | q
  · exact q
  · exfalso
    have : j / (Int.gcd i j : Int) * (Int.gcd i j : Int) ≤ 0 := Int.mul_nonpos_of_nonpos_of_nonneg q (by omega)
    omega
theorem lowT_mom {i j : Int} (h : -50 ≤ i ∧ i ≤ 50) (h1 : 1 ≤ j ∧ j ≤ 3) : isMom (lowT i j) := by
  have p := gcd_pos (i := i) (show 0 < j by omega)
  have q := ediv_bd p h
  have r := div_gcd_pos (i := i) (show 0 < j by omega)
  have t : j / (Int.gcd i j : Int) ≤ j := Int.ediv_le_self _ (by omega)
  exact ⟨_, _, rfl, q.1, q.2, by omega, by omega⟩
theorem isMom.pure {d : D} (h : isMom d) : d.pure = true := by
  obtain ⟨t, b, e, _⟩ := h
  subst e
  rfl
theorem moments_ok {n : Nat} {s : Sto} {m : Int} (h : Jar n s) (hm : 1 ≤ m ∧ m ≤ 3) : ∃ l s', f__law_moments [.cel n, .int m] s = .ok (.tup l) s' ∧ (l.length : Int) = 2 * m ∧ (∀ d ∈ l, isMom d) ∧ Jr n s s' := by
  have hn := h.lt
  obtain ⟨r, s1, e1, r0, r1, j1⟩ := dip_ok (w := 5) h.new (by decide) (by decide) (s := newCel s [])
  obtain ⟨b, s2, e2, hb, j2⟩ := any_int (l := [1, 1, 2, 3]) j1.jar (by simp) (by simp)
  have hb' : 1 ≤ b ∧ b ≤ 3 := by simp at hb; omega
  have m1 : ∀ s, dMul s (.int 2) (.int m) = some (.int (2 * m)) := fun _ => dMul_ii (by omega) (by omega)
  have j12 := j1.trans j2
  have hne : s.cel.length ≠ n := by omega
  have c2 : s2.cel[s.cel.length]? = some [] := j12.cel hne newCel_new
  obtain ⟨env', s3, e3, hI⟩ := for_invN (body := lb__law_moments_0) (i := 5) (ds := rngD 0 (2 * m).toNat) (k := 0) (env := [some (.cel n), some (.int m), some (.cel s.cel.length), some (.int (r - 2)), some (.int b), none]) (s := s2)
    (I := fun k env s3 => ∃ (t : Int) (x : Option D) (l : List D), env = [some (.cel n), some (.int m), some (.cel s.cel.length), some (.int t), some (.int b), x] ∧ l.length = k ∧ (∀ d ∈ l, isMom d) ∧ -2 - 2 * (k : Int) ≤ t ∧ t ≤ 2 + 8 * (k : Int) ∧ s3.cel[s.cel.length]? = some l ∧ Jar n s3 ∧ s3.cel.length = s.cel.length + 1 ∧ (∀ i, i < s.cel.length → i ≠ n → s3.cel[i]? = s.cel[i]?) ∧ s3.obj = s.obj)
    ⟨r - 2, none, [], rfl, rfl, (by simp), by omega, by omega, c2, j2.jar, by rw [j12.len, newCel_len], fun i h1 h2 => by rw [j12.oth i h2, newCel_old h1], j12.obj⟩
    fun k d hd env s3 ⟨t, x, l, ee, hl, hmm, t0, t1, hc, hj, hlen, ho, hob⟩ => by
      subst ee
      have hk : k < 6 := by
        have : k < (rngD 0 (2 * m).toNat).length := (List.getElem?_eq_some_iff.mp hd).1
        rw [rngD_len0] at this
        omega
      have hmom : isMom (lowT t b) := lowT_mom (by omega) hb'
      have ap := append_ok hc hmom.pure (by omega)
      have hj2 : Jar n (setCel s3 s.cel.length (l ++ [lowT t b])) := hj.setO (by omega)
      obtain ⟨q, s4, e4, hq, j4⟩ := any_int (l := [0, 1, 2, 3, 5, 8, -2]) hj2 (by simp) (by simp)
      have hq' : -2 ≤ q ∧ q ≤ 8 := by simp at hq; omega
      have lw : ∀ s, f__law_low [.int t, .int b] s = .ok (lowT t b) s := fun s => low_ok (by omega) (by omega)
      have e4' : f__law_any [.cel n, .lst [.int 0, .int 1, .int 2, .int 3, .int 5, .int 8, .int (-2)]] (setCel s3 s.cel.length (l ++ [lowT t b])) = .ok (.int q) s4 := e4
      refine ⟨[some (.cel n), some (.int m), some (.cel s.cel.length), some (.int (t + q)), some (.int b), some d], s4, .inl ?_, t + q, some d, l ++ [lowT t b], rfl, by simp [hl], ?_, by omega, by omega, j4.cel (by omega) (setCel_at hc), j4.jar, by rw [j4.len, setCel_len, hlen], fun i h1 h2 => by rw [j4.oth i h2, setCel_ne (by omega), ho i h1 h2], by rw [j4.obj]; exact hob⟩
      · simp [lb__law_moments_0, lw, ap, e4']
      · intro y hy
        rcases List.mem_append.mp hy with hy | hy
        · exact hmm y hy
        · simp at hy; subst hy; exact hmom
  obtain ⟨t, x, l, ee, hl, hmm, t0, t1, hc, hj, hlen, ho, hob⟩ := hI
  subst ee
  rw [rngD_len0, Nat.zero_add] at hl
  have hpl : pureL l = true := pureL_of fun y hy => (hmm y hy).pure
  have e2' : f__law_any [.cel n, .lst [.int 1, .int 1, .int 2, .int 3]] s1 = .ok (.int b) s2 := e2
  refine ⟨l, cut s.cel.length s3, ?_, by omega, hmm, Jr.cut hn hj (by omega) ho hob⟩
  have g2 : -100000 ≤ 2 * m ∧ 2 * m ≤ 100000 := by omega
  have gt : gTup s3 [.cel s.cel.length] = some (.tup l) := by unfold gTup; simp [hc]
  have fzz : ∀ c, fz s.cel.length c (.tup l) = .tup l := fun c => fz_pure _ (by simpa [D.pure] using hpl)
  unfold f__law_moments
  rw [defC_ap]
  simp [e1, e2', m1, g2, e3, gt, fzz]
theorem atI_mem {l : List D} {k : Int} (h0 : 0 ≤ k) (h : k < l.length) : ∃ d ∈ l, atI l k = some d := by
  have hr : k.toNat < l.length := by omega
  exact ⟨l[k.toNat], List.getElem_mem hr, by rw [atI_nat h0 h, List.getElem?_eq_getElem hr]⟩
theorem bd_mul {a b : Int} (ha : -50 ≤ a ∧ a ≤ 50) (hb : 1 ≤ b ∧ b ≤ 3) : -150 ≤ a * b ∧ a * b ≤ 150 := by
  have : b = 1 ∨ b = 2 ∨ b = 3 := by omega
  rcases this with rfl | rfl | rfl <;> omega
theorem bd_mul2 {a b : Int} (ha : 1 ≤ a ∧ a ≤ 3) (hb : 1 ≤ b ∧ b ≤ 3) : 1 ≤ a * b ∧ a * b ≤ 9 := by
  have : b = 1 ∨ b = 2 ∨ b = 3 := by omega
  rcases this with rfl | rfl | rfl <;> omega
theorem ediv_bd3 {i g : Int} (hg : 0 < g) (h : -300 ≤ i ∧ i ≤ 300) : -300 ≤ i / g ∧ i / g ≤ 300 := by
  refine ⟨(Int.le_ediv_iff_mul_le hg).mpr (by omega), ?_⟩
  have := Int.ediv_le_self (a := 300) g (by omega)
  have h2 : i / g ≤ 300 / g := Int.ediv_le_ediv hg h.2
  omega
theorem plus_ok {s : Sto} {t1 b1 t2 b2 : Int} (h1 : -50 ≤ t1 ∧ t1 ≤ 50) (h2 : 1 ≤ b1 ∧ b1 ≤ 3) (h3 : -50 ≤ t2 ∧ t2 ≤ 50) (h4 : 1 ≤ b2 ∧ b2 ≤ 3) : ∃ x y : Int, f__law_plus [.tup [.int t1, .int b1], .tup [.int t2, .int b2]] s = .ok (.tup [.int x, .int y]) s ∧ -300 ≤ x ∧ x ≤ 300 ∧ 1 ≤ y ∧ y ≤ 9 := by
  have q1 := bd_mul h1 h4
  have q2 := bd_mul h3 h2
  have q3 := bd_mul2 h2 h4
  have m1 : ∀ s, dMul s (.int t1) (.int b2) = some (.int (t1 * b2)) := fun _ => dMul_ii (by omega) (by omega)
  have m2 : ∀ s, dMul s (.int t2) (.int b1) = some (.int (t2 * b1)) := fun _ => dMul_ii (by omega) (by omega)
  have m3 : ∀ s, dMul s (.int b1) (.int b2) = some (.int (b1 * b2)) := fun _ => dMul_ii (by omega) (by omega)
  have lw : ∀ s, f__law_low [.int (t1 * b2 + t2 * b1), .int (b1 * b2)] s = .ok (lowT (t1 * b2 + t2 * b1) (b1 * b2)) s := fun s => low_ok (by omega) (by omega)
  have r := div_gcd_pos (i := t1 * b2 + t2 * b1) (show 0 < b1 * b2 by omega)
  have t : b1 * b2 / (Int.gcd (t1 * b2 + t2 * b1) (b1 * b2) : Int) ≤ b1 * b2 := Int.ediv_le_self _ (by omega)
  have qq := ediv_bd3 (gcd_pos (i := t1 * b2 + t2 * b1) (show 0 < b1 * b2 by omega)) (i := t1 * b2 + t2 * b1) (by omega)
  refine ⟨(t1 * b2 + t2 * b1) / (Int.gcd (t1 * b2 + t2 * b1) (b1 * b2) : Nat), b1 * b2 / (Int.gcd (t1 * b2 + t2 * b1) (b1 * b2) : Nat), ?_, qq.1, qq.2, by omega, by omega⟩
  unfold f__law_plus
  rw [defF_ap]
  simp [m1, m2, m3, lw, lowT]
/-- a gap, as drawn -/
def isGapD (m : Int) (d : D) : Prop := ∃ i j v : Int, d = .tup [.int i, .int j, .int v] ∧ 0 ≤ i ∧ i < 2 * m ∧ 0 ≤ j ∧ j < 2 * m ∧ i ≠ j ∧ -400 ≤ v ∧ v ≤ 400
theorem isGapD.ok {m : Int} {d : D} (h : isGapD m d) : isGap m d = true ∧ okT 1 d := by
  obtain ⟨i, j, v, e, h1, h2, h3, h4, h5, h6, h7⟩ := h
  subst e
  refine ⟨?_, okT_tupI (by simp)⟩
  have a1 : i ≤ 2 * m - 1 := by omega
  have a2 : j ≤ 2 * m - 1 := by omega
  have a3 : -1000 ≤ v := by omega
  have a4 : v ≤ 1000 := by omega
  simp [isGap, isFrom, h1, a1, h3, a2, a3, a4, h5]
theorem gap_ok {n : Nat} {s : Sto} {m : Int} {l : List D} (h : Jar n s) (hm : 1 ≤ m ∧ m ≤ 3) (hl : (l.length : Int) = 2 * m) (hmm : ∀ d ∈ l, isMom d) : ∃ d s', f__law_gap [.cel n, .int m, .tup l] s = .ok d s' ∧ isGapD m d ∧ Jr n s s' := by
  have m1 : ∀ s, dMul s (.int 2) (.int m) = some (.int (2 * m)) := fun _ => dMul_ii (by omega) (by omega)
  obtain ⟨a, s1, e1, a0, a1, j1⟩ := dip_ok (w := 2 * m) h (by omega) (by omega)
  obtain ⟨b, s2, e2, b0, b1, j2⟩ := dip_ok (w := 2 * m - 1) j1.jar (by omega) (by omega)
  have c0 : 0 ≤ (a + 1 + b) % (2 * m) := Int.emod_nonneg _ (by omega)
  have c1 : (a + 1 + b) % (2 * m) < 2 * m := Int.emod_lt_of_pos _ (by omega)
  have cne : a ≠ (a + 1 + b) % (2 * m) := by
    have : m = 1 ∨ m = 2 ∨ m = 3 := by omega
    rcases this with rfl | rfl | rfl <;> omega
  generalize hc : (a + 1 + b) % (2 * m) = c at c0 c1 cne
  obtain ⟨da, hda, ea⟩ := atI_mem (l := l) a0 (by omega)
  obtain ⟨dc, hdc, ec⟩ := atI_mem (l := l) c0 (by omega)
  obtain ⟨ta, ba, ra, x1, x2, x3, x4⟩ := hmm da hda
  obtain ⟨tc, bc, rc, y1, y2, y3, y4⟩ := hmm dc hdc
  subst ra rc
  obtain ⟨x, y, ep, hx1, hx2, hy1, hy2⟩ := plus_ok (s := s2) (t1 := tc) (b1 := bc) (t2 := -ta) (b2 := ba) (by omega) (by omega) (by omega) (by omega)
  obtain ⟨q, s3, e3, hq, j3⟩ := any_int (l := [0, 0, 1, 3]) j2.jar (by simp) (by simp)
  obtain ⟨r, s4, e4, r0, r1, j4⟩ := dip_ok (w := 8) j3.jar (by decide) (by decide)
  obtain ⟨u, s5, e5, u0, u1, j5⟩ := dip_ok (w := 9) j4.jar (by decide) (by decide)
  have e3' : f__law_any [.cel n, .lst [.int 0, .int 0, .int 1, .int 3]] s2 = .ok (.int q) s3 := e3
  have md : ∀ s, dMod s (.int (a + 1 + b)) (.int (2 * m)) = some (.int c) := fun s => by rw [dMod_ii (by omega), hc]
  have fd : ∀ s, dFdiv s (.int x) (.int y) = some (.int (x / y)) := fun s => dFdiv_ii (by omega) (by omega)
  have hxy := ediv_bd3 (g := y) (i := x) (by omega) ⟨hx1, hx2⟩
  have hq2 : 0 ≤ q ∧ q ≤ 3 := by simp at hq; omega
  by_cases hr : 0 < r
  · refine ⟨.tup [.int a, .int c, .int (x / y - q)], s4, ?_, ⟨_, _, _, rfl, a0, a1, c0, c1, cne, by omega, by omega⟩, ((j1.trans j2).trans j3).trans j4⟩
    unfold f__law_gap
    rw [defF_ap]
    simp [m1, e1, e2, md, ea, ec, ep, fd, e3', e4, hr]
  · refine ⟨.tup [.int a, .int c, .int (u - 4)], s5, ?_, ⟨_, _, _, rfl, a0, a1, c0, c1, cne, by omega, by omega⟩, (((j1.trans j2).trans j3).trans j4).trans j5⟩
    unfold f__law_gap
    rw [defF_ap]
    simp [m1, e1, e2, md, ea, ec, ep, fd, e3', e4, hr, e5]
theorem book_ok {n : Nat} {s : Sto} {m k : Int} (h : Jar n s) (hm : 1 ≤ m ∧ m ≤ 3) (hk : 0 ≤ k ∧ k ≤ 10) : ∃ ys s', f__law_book [.cel n, .int m, .int k] s = .ok (.tup [.int m, .tup ys]) s' ∧ (ys.length : Int) ≤ k ∧ (∀ y ∈ ys, isGapD m y) ∧ Jr n s s' := by
  obtain ⟨l, s1, e1, hl, hmm, j1⟩ := moments_ok h hm
  obtain ⟨r, s2, e2, r0, r1, j2⟩ := dip_ok (w := k + 1) j1.jar (by omega) (by omega)
  have hr : -100000 ≤ r ∧ r ≤ 100000 := by omega
  obtain ⟨ys, s3, e3, i3, l3, p3⟩ := lc_inv (f := le__law_book_0) (i := 4) (env := [some (.cel n), some (.int m), some (.int k), some (.tup l), none]) (I := fun s3 => Jr n s2 s3) (P := isGapD m) (ds := rngD 0 r.toNat) (Jr.refl j2.jar) fun d hd s3 j3 => by
    obtain ⟨g, s4, e4, hg, j4⟩ := gap_ok j3.jar hm hl hmm
    exact ⟨g, s4, by simp [le__law_book_0, e4], j3.trans j4, hg⟩
  refine ⟨ys, s3, ?_, by rw [l3, rngD_len0]; omega, p3, (j1.trans j2).trans i3⟩
  unfold f__law_book
  rw [defF_ap]
  simp [e1, e2, hr, e3]
theorem any_str {n : Nat} {s : Sto} {l : List Str} (h : Jar n s) (h0 : l ≠ []) (h1 : l.length < 1073741824) : ∃ i s', f__law_any [.cel n, .lst (l.map .str)] s = .ok (.str i) s' ∧ i ∈ l ∧ Jr n s s' := by
  obtain ⟨d, s', e, hd, j⟩ := any_ok (l := l.map .str) h (by simpa using h0) (by simpa using h1)
  obtain ⟨i, hi, e2⟩ := List.mem_map.mp hd
  subst e2
  exact ⟨i, s', e, hi, j⟩
/-- a step, as drawn -/
def isStepD (m : Int) (d : D) : Prop := (∃ c v : Int, d = .tup [.str "shift", .int c, .int v] ∧ 0 ≤ c ∧ c < m ∧ -10 ≤ v ∧ v ≤ 10) ∨ ∃ (x : Str) (v : Int), x ∈ (["later", "earlier", "longer", "shorter"] : List Str) ∧ d = .tup [.str x, .int v] ∧ 0 ≤ v ∧ v ≤ 10
theorem step_ok {n : Nat} {s : Sto} {m : Int} (h : Jar n s) (hm : 1 ≤ m ∧ m ≤ 3) : ∃ d s', f__law_step [.cel n, .int m] s = .ok d s' ∧ isStepD m d ∧ Jr n s s' := by
  obtain ⟨a, s1, e1, a0, a1, j1⟩ := dip_ok (w := 6) h (by omega) (by omega)
  by_cases ha : a = 0
  · subst ha
    obtain ⟨b, s2, e2, b0, b1, j2⟩ := dip_ok (w := m) j1.jar (by omega) (by omega)
    obtain ⟨c, s3, e3, c0, c1, j3⟩ := dip_ok (w := 9) j2.jar (by omega) (by omega)
    refine ⟨.tup [.str "shift", .int b, .int (c - 4)], s3, ?_, .inl ⟨_, _, rfl, b0, b1, by omega, by omega⟩, (j1.trans j2).trans j3⟩
    unfold f__law_step
    rw [defF_ap]
    simp [e1, e2, e3, dEq]
  · obtain ⟨x, s2, e2, hx, j2⟩ := any_str (l := ["later", "later", "earlier", "longer", "shorter"]) j1.jar (by simp) (by simp)
    obtain ⟨q, s3, e3, hq, j3⟩ := any_int (l := [0, 1, 2, 3, 5]) j2.jar (by simp) (by simp)
    have e2' : f__law_any [.cel n, .lst [.str "later", .str "later", .str "earlier", .str "longer", .str "shorter"]] s1 = .ok (.str x) s2 := e2
    have e3' : f__law_any [.cel n, .lst [.int 0, .int 1, .int 2, .int 3, .int 5]] s2 = .ok (.int q) s3 := e3
    have hx' : x ∈ (["later", "earlier", "longer", "shorter"] : List Str) := by
      simp at hx ⊢
      exact hx
    have hq' : 0 ≤ q ∧ q ≤ 5 := by simp at hq; omega
    refine ⟨.tup [.str x, .int q], s3, ?_, .inr ⟨x, q, hx', rfl, by omega, by omega⟩, (j1.trans j2).trans j3⟩
    unfold f__law_step
    rw [defF_ap]
    simp [e1, dEq, ha, e2', e3']
theorem steps_ok {n : Nat} {s : Sto} {m k : Int} (h : Jar n s) (hm : 1 ≤ m ∧ m ≤ 3) (hk : 0 ≤ k ∧ k ≤ 10) : ∃ ys s', f__law_steps [.cel n, .int m, .int k] s = .ok (.tup ys) s' ∧ (ys.length : Int) ≤ k ∧ (∀ y ∈ ys, isStepD m y) ∧ Jr n s s' := by
  obtain ⟨r, s2, e2, r0, r1, j2⟩ := dip_ok (w := k + 1) h (by omega) (by omega)
  have hr : -100000 ≤ r ∧ r ≤ 100000 := by omega
  obtain ⟨ys, s3, e3, i3, l3, p3⟩ := lc_inv (f := le__law_steps_0) (i := 3) (env := [some (.cel n), some (.int m), some (.int k), none]) (I := fun s3 => Jr n s2 s3) (P := isStepD m) (ds := rngD 0 r.toNat) (Jr.refl j2.jar) fun d hd s3 j3 => by
    obtain ⟨g, s4, e4, hg, j4⟩ := step_ok j3.jar hm
    exact ⟨g, s4, by simp [le__law_steps_0, e4], j3.trans j4, hg⟩
  refine ⟨ys, s3, ?_, by rw [l3, rngD_len0]; omega, p3, j2.trans i3⟩
  unfold f__law_steps
  rw [defF_ap]
  simp [e2, hr, e3]
end G

end
section
namespace G
open PySem PySem.Spec L2
/-! ### steps, forms, rows -/
inductive Sp where
  | sh (c : Nat) (v : Int) | la (v : Int) | ea (v : Int) | lo (v : Int) | so (v : Int)
def spT : Sp → D
  | .sh c v => .tup [.str "shift", .int c, .int v]
  | .la v => .tup [.str "later", .int v]
  | .ea v => .tup [.str "earlier", .int v]
  | .lo v => .tup [.str "longer", .int v]
  | .so v => .tup [.str "shorter", .int v]
def Sp.ok (m : Nat) : Sp → Prop
  | .sh c v => c < m ∧ -10 ≤ v ∧ v ≤ 10
  | .la v => 0 ≤ v ∧ v ≤ 10
  | .ea v => 0 ≤ v ∧ v ≤ 10
  | .lo v => 0 ≤ v ∧ v ≤ 10
  | .so v => 0 ≤ v ∧ v ≤ 10
theorem isStepD.sp {m : Nat} {d : D} (h : isStepD m d) : ∃ s : Sp, d = spT s ∧ s.ok m := by
  rcases h with ⟨c, v, e, h1, h2, h3, h4⟩ | ⟨x, v, hx, e, h1, h2⟩
  · obtain ⟨k, rfl⟩ := Int.eq_ofNat_of_zero_le h1
    exact ⟨.sh k v, e, by unfold Sp.ok; omega⟩
  · simp at hx
    rcases hx with rfl | rfl | rfl | rfl
    · exact ⟨.la v, e, h1, h2⟩
    · exact ⟨.ea v, e, h1, h2⟩
    · exact ⟨.lo v, e, h1, h2⟩
    · exact ⟨.so v, e, h1, h2⟩
theorem isStepDs {m : Nat} : ∀ {l : List D}, (∀ d ∈ l, isStepD m d) → ∃ ss : List Sp, l = ss.map spT ∧ ∀ s ∈ ss, s.ok m
  | [], _ => ⟨[], rfl, fun _ h => nomatch h⟩
  | d :: l, h => by
    obtain ⟨s, e, hs⟩ := (h d (List.mem_cons_self ..)).sp
    obtain ⟨ss, e2, hss⟩ := isStepDs (l := l) fun z hz => h z (List.mem_cons_of_mem _ hz)
    exact ⟨s :: ss, by rw [e, e2]; rfl, fun z hz => by
      rcases List.mem_cons.mp hz with q | q
      · rw [q]; exact hs
      · exact hss z q⟩
abbrev Fm := Int × Int
abbrev Rw := Int × Int × Int × Bool
def fD (p : Fm) : D := .tup [.int p.1, .int p.2]
def rD (r : Rw) : D := .tup [.int r.1, .int r.2.1, .int r.2.2.1, .bl r.2.2.2]
/-- a test: which, against which, by; put where, of which, by -/
structure Tst where
  a : Nat
  b : Nat
  n : Int
  at_ : Nat
  s : Nat
  k : Int
def tD (t : Tst) : D := .tup [.int t.a, .int t.b, .int t.n, .int t.at_, .int t.s, .int t.k]
def cuesOf (m : Nat) : Sp → List Nat
  | .sh _ _ => []
  | .la _ => (List.range m).drop 1
  | .ea _ => (List.range m).take (m - 1)
  | .lo _ => List.range m
  | .so _ => List.range m
def tstOf : Sp → Nat → Tst
  | .sh _ _, c => ⟨c, c, 0, c, c, 0⟩
  | .la v, c => ⟨2 * c - 1, 2 * c, v, 2 * c, 2 * c - 1, v⟩
  | .ea v, c => ⟨2 * c + 1, 2 * c + 2, v, 2 * c + 1, 2 * c + 2, 0 - v⟩
  | .lo v, c => ⟨2 * c, 2 * c + 1, v, 2 * c + 1, 2 * c, v⟩
  | .so v, c => ⟨2 * c + 1, 2 * c, 0 - v, 2 * c + 1, 2 * c, v⟩
def testsL (m : Nat) (s : Sp) : List Tst := (cuesOf m s).map (tstOf s)
theorem rng1 : rngD 0 1 = [.int 0] := rfl
theorem rng2 : rngD 0 2 = [.int 0, .int 1] := rfl
theorem rng3 : rngD 0 3 = [.int 0, .int 1, .int 2] := rfl
@[simp] theorem atI_m1 {α : Type} {d e : α} : atI [d, e] (-1) = some e := by unfold atI ixN; simp
@[simp] theorem atI_m13 {α : Type} {d e f : α} : atI [d, e, f] (-1) = some f := by unfold atI ixN; simp
theorem gSl_lst {s : Sto} {l : List D} {lo hi : Option Int} : gSl s (.lst l) lo hi = some (.lst (cutD l lo hi)) := rfl
theorem dEq_ss {s : Sto} {x y : Str} (hx : okD (.str x) = true) (hy : okD (.str y) = true) : dEq s (.str x) (.str y) = some (.bl (x == y)) := by
  simp [dEq, hx, hy]
theorem okD_later : okD (.str "later") = true := by decide +kernel
theorem okD_earlier : okD (.str "earlier") = true := by decide +kernel
theorem okD_longer : okD (.str "longer") = true := by decide +kernel
theorem okD_shorter : okD (.str "shorter") = true := by decide +kernel
theorem c1a : cutD [.int 0] (some 1) none = [] := rfl
theorem c2a : cutD [.int 0, .int 1] (some 1) none = [.int 1] := rfl
theorem c3a : cutD [.int 0, .int 1, .int 2] (some 1) none = [.int 1, .int 2] := rfl
theorem c1b : cutD [.int 0] none (some (-1)) = [] := rfl
theorem c2b : cutD [.int 0, .int 1] none (some (-1)) = [.int 0] := rfl
theorem c3b : cutD [.int 0, .int 1, .int 2] none (some (-1)) = [.int 0, .int 1] := rfl
theorem mul2 {s : Sto} {j : Int} : dMul s (.int 2) (.int j) = some (.int (2 * j)) := by
  unfold dMul
  simp [smallI]
@[simp] theorem ne_shift_later : ((Str.ofString "shift") = (Str.ofString "later")) = False := eq_false (by decide +kernel)
@[simp] theorem ne_shift_earlier : ((Str.ofString "shift") = (Str.ofString "earlier")) = False := eq_false (by decide +kernel)
@[simp] theorem ne_shift_longer : ((Str.ofString "shift") = (Str.ofString "longer")) = False := eq_false (by decide +kernel)
@[simp] theorem ne_shift_shorter : ((Str.ofString "shift") = (Str.ofString "shorter")) = False := eq_false (by decide +kernel)
@[simp] theorem ne_later_shift : ((Str.ofString "later") = (Str.ofString "shift")) = False := eq_false (by decide +kernel)
@[simp] theorem ne_later_earlier : ((Str.ofString "later") = (Str.ofString "earlier")) = False := eq_false (by decide +kernel)
@[simp] theorem ne_later_longer : ((Str.ofString "later") = (Str.ofString "longer")) = False := eq_false (by decide +kernel)
@[simp] theorem ne_later_shorter : ((Str.ofString "later") = (Str.ofString "shorter")) = False := eq_false (by decide +kernel)
@[simp] theorem ne_earlier_shift : ((Str.ofString "earlier") = (Str.ofString "shift")) = False := eq_false (by decide +kernel)
@[simp] theorem ne_earlier_later : ((Str.ofString "earlier") = (Str.ofString "later")) = False := eq_false (by decide +kernel)
@[simp] theorem ne_earlier_longer : ((Str.ofString "earlier") = (Str.ofString "longer")) = False := eq_false (by decide +kernel)
@[simp] theorem ne_earlier_shorter : ((Str.ofString "earlier") = (Str.ofString "shorter")) = False := eq_false (by decide +kernel)
@[simp] theorem ne_longer_shift : ((Str.ofString "longer") = (Str.ofString "shift")) = False := eq_false (by decide +kernel)
@[simp] theorem ne_longer_later : ((Str.ofString "longer") = (Str.ofString "later")) = False := eq_false (by decide +kernel)
@[simp] theorem ne_longer_earlier : ((Str.ofString "longer") = (Str.ofString "earlier")) = False := eq_false (by decide +kernel)
@[simp] theorem ne_longer_shorter : ((Str.ofString "longer") = (Str.ofString "shorter")) = False := eq_false (by decide +kernel)
@[simp] theorem ne_shorter_shift : ((Str.ofString "shorter") = (Str.ofString "shift")) = False := eq_false (by decide +kernel)
@[simp] theorem ne_shorter_later : ((Str.ofString "shorter") = (Str.ofString "later")) = False := eq_false (by decide +kernel)
@[simp] theorem ne_shorter_earlier : ((Str.ofString "shorter") = (Str.ofString "earlier")) = False := eq_false (by decide +kernel)
@[simp] theorem ne_shorter_longer : ((Str.ofString "shorter") = (Str.ofString "longer")) = False := eq_false (by decide +kernel)
theorem tests_of_ok {m : Nat} {s : Sp} {st : Sto} (hm : m = 1 ∨ m = 2 ∨ m = 3) : f_tests_of [.int m, spT s] st = .ok (.lst ((testsL m s).map tD)) st := by
  rcases hm with rfl | rfl | rfl <;> cases s <;>
    simp [f_tests_of, defF_ap, spT, rng1, rng2, rng3, gSl_lst, c1a, c2a, c3a, c1b, c2b, c3b, dEq_ss, okD_shift, okD_later, okD_earlier, okD_longer, okD_shorter, lcL_c, le_tests_of_0, le_tests_of_1, le_tests_of_2, le_tests_of_3, mul2, testsL, cuesOf, tstOf, tD, List.range, List.range.loop]
/-! ### what a word does -/
def fAt (F : List Fm) (i : Nat) : Fm := F.getD i (0, 0)
def oneF (F : List Fm) (t : Tst) : Fm := ((fAt F t.a).1, (fAt F t.a).2 + t.n)
def rowOf (F : List Fm) (t : Tst) (late : Bool) : Rw := if late = true then ((fAt F t.b).1, (oneF F t).1, (fAt F t.b).2 - (oneF F t).2, true) else ((oneF F t).1, (fAt F t.b).1, (oneF F t).2 - (fAt F t.b).2, false)
def putF (F : List Fm) (t : Tst) (late : Bool) : List Fm := if late = true then F.set t.at_ ((fAt F t.s).1, (fAt F t.s).2 + t.k) else F
def shK (c : Nat) (v : Int) : Nat → List Fm → List Fm
  | _, [] => []
  | k, p :: F => (if 2 * c ≤ k then (p.1, p.2 + v) else p) :: shK c v (k + 1) F
def shF (F : List Fm) (c : Nat) (v : Int) : List Fm := shK c v 0 F
theorem shK_len {c : Nat} {v : Int} : ∀ {k : Nat} {F : List Fm}, (shK c v k F).length = F.length
  | _, [] => rfl
  | k, p :: F => by simp [shK, shK_len]
structure RS where
  F : List Fm
  R : List Rw
  w : List Bool
def goT (b : Bool) (r : RS) (t : Tst) : RS := ⟨putF r.F t b, r.R ++ [rowOf r.F t b], r.w ++ [b]⟩
def goTs (told : List Bool) : List Tst → RS → RS
  | [], r => r
  | t :: ts, r => goTs told ts (goT (told.getD r.w.length false) r t)
def shS (s : Sp) (r : RS) : RS := match s with
  | .sh c v => ⟨shF r.F c v, r.R, r.w⟩
  | _ => r
def goS (m : Nat) (told : List Bool) : List Sp → RS → RS
  | [], r => r
  | s :: ss, r => goS m told ss (goTs told (testsL m s) (shS s r))
def Tst.ok (n : Nat) (t : Tst) : Prop := t.a < n ∧ t.b < n ∧ t.at_ < n ∧ t.s < n
theorem testsL_ok {m : Nat} {s : Sp} {t : Tst} (hm : m = 1 ∨ m = 2 ∨ m = 3) (h : t ∈ testsL m s) : t.ok (2 * m) := by
  unfold testsL at h
  obtain ⟨c, hc, e⟩ := List.mem_map.mp h
  subst e
  cases s with
  | sh _ _ => simp [cuesOf] at hc
  | la v =>
    have : 1 ≤ c ∧ c < m := by
      rcases hm with rfl | rfl | rfl <;> simp [cuesOf, List.range, List.range.loop] at hc <;> omega
    unfold Tst.ok tstOf; simp; omega
  | ea v =>
    have : c + 1 < m := by
      rcases hm with rfl | rfl | rfl <;> simp [cuesOf, List.range, List.range.loop] at hc <;> omega
    unfold Tst.ok tstOf; simp; omega
  | lo v =>
    have : c < m := by simpa [cuesOf] using hc
    unfold Tst.ok tstOf; simp; omega
  | so v =>
    have : c < m := by simpa [cuesOf] using hc
    unfold Tst.ok tstOf; simp; omega
theorem more_form_ok {p : Fm} {v : Int} {s : Sto} : f_more_form [fD p, .int v] s = .ok (fD (p.1, p.2 + v)) s := by
  simp [f_more_form, defF_ap, fD]
theorem atI_F {F : List Fm} {i : Nat} (h : i < F.length) : atI (F.map fD) (i : Int) = some (fD (fAt F i)) := by
  rw [atI_nat (by omega) (by simpa using h)]
  simp [fAt, h, List.getD]
theorem test_row_ok {F : List Fm} {t : Tst} {b : Bool} {s : Sto} (h : t.ok F.length) : f_test_row [.tup (F.map fD), tD t, .bl b] s = .ok (rD (rowOf F t b)) s := by
  have a1 := atI_F h.1
  have a2 := atI_F h.2.1
  have mf := fun s => more_form_ok (p := fAt F t.a) (v := t.n) (s := s)
  cases b <;> simp [f_test_row, defF_ap, tD, a1, a2, mf, rD, rowOf, oneF] <;> simp [fD]
theorem put_ok {F : List Fm} {i : Nat} {p : Fm} {s : Sto} (h : i < F.length) (hF : F.length ≤ 10) : f_put [.tup (F.map fD), .int i, fD p] s = .ok (.tup ((F.set i p).map fD)) s := by
  have g1 := cutD_pre (l := F.map fD) (k := i) (by simp; omega)
  have g2 := cutD_post (l := F.map fD) (k := i) (by simpa using h)
  have ad : ∀ s, dAdd s (.tup ((F.map fD).take i)) (.tup [fD p]) = some (.tup ((F.map fD).take i ++ [fD p])) := fun s => dAdd_tt (by simp; omega)
  have ad2 : ∀ s, dAdd s (.tup ((F.map fD).take i ++ [fD p])) (.tup ((F.map fD).drop (i + 1))) = some (.tup (((F.map fD).take i ++ [fD p]) ++ (F.map fD).drop (i + 1))) := fun s => dAdd_tt (by simp; omega)
  have e : ((F.map fD).take i ++ [fD p]) ++ (F.map fD).drop (i + 1) = (F.set i p).map fD := by
    rw [List.map_set, List.set_eq_take_append_cons_drop]
    simp [h]
  rw [e] at ad2
  simp [f_put, defF_ap, g1, g2, ad, ad2, -List.append_assoc, -List.map_set]
end G

end
section
namespace G
open PySem PySem.Spec L2
theorem eCallV_ok {i : Nat} {tbl : List (Str × Fun1)} {gl : EL} {env : Env} {s : Sto} {x : Str} {F : Fun1} (h : env[i]? = some (some (.fn x))) (h2 : tbl.lookup x = some F) : eCallV i tbl gl env s = (gl env s).bind F := by
  unfold eCallV valAt
  rw [h]
  simp [h2]
@[simp] theorem bind_tp2 {i j : Nat} {a b : D} {env : Env} : Pat.bind (.tp [.nm i, .nm j]) (.tup [a, b]) env = some ((env.set i (some a)).set j (some b)) := by
  simp [Pat.bind, Pat.binds]
@[simp] theorem bind_tp3 {i j k : Nat} {a b c : D} {env : Env} : Pat.bind (.tp [.nm i, .nm j, .nm k]) (.tup [a, b, c]) env = some (((env.set i (some a)).set j (some b)).set k (some c)) := by
  simp [Pat.bind, Pat.binds]
theorem lcL_p {p : Pat} {f : E} {env env1 : Env} {d y : D} {ds ys : List D} {s s1 s2 : Sto} (hb : p.bind d env = some env1) (hf : f env1 s = .ok y s1) (hr : lcL p bYes f env ds s1 = .ok ys s2) : lcL p bYes f env (d :: ds) s = .ok (y :: ys) s2 := by
  unfold lcL
  simp only [hb, bYes_ap, hf, hr, Res.bind_ok]
theorem fn_lookup {F : Fun1} : List.lookup ("more_form" : Str) [("more_form", F)] = some F := by simp [List.lookup]
theorem shift_lc {c : Nat} {v : Int} {a b : Option D} {s : Sto} : ∀ {k : Nat} {F : List Fm}, k + F.length ≤ 100 → lcL (.tp [.nm 3, .nm 4]) bYes le_shifted_0 [a, some (spT (.sh c v)), some (.fn "more_form"), none, none] (enumD k (F.map fD)) s = .ok ((shK c v k F).map fD) s
  | k, [], _ => rfl
  | k, p :: F, h => by
    have hr := shift_lc (c := c) (v := v) (a := a) (b := b) (s := s) (k := k + 1) (F := F) (by simp at h; omega)
    refine lcL_p (env1 := [a, some (spT (.sh c v)), some (.fn "more_form"), some (.int k), some (fD p)]) (s1 := s) (by simp) ?_ hr
    have cv : ∀ s, eCallV 2 [("more_form", f_more_form)] (lCons (eVar 4) (lCons (eOp gIx (eVar 1) (eC (.int 2))) lNil)) [a, some (spT (.sh c v)), some (.fn "more_form"), some (.int k), some (fD p)] s = .ok (fD (p.1, p.2 + v)) s := fun s => by
      rw [eCallV_ok (x := "more_form") (F := f_more_form) rfl fn_lookup]
      simp [spT, more_form_ok]
    by_cases hk : 2 * c ≤ k
    · have hk' : (2 : Int) * c ≤ k := by omega
      simp [le_shifted_0, mul2, cv, hk, hk', spT]
      rw [show D.tup [D.str (Str.ofString "shift"), D.int ↑c, D.int v] = spT (.sh c v) from rfl, cv]
    · have hk' : ¬ (2 : Int) * c ≤ k := by omega
      simp [le_shifted_0, mul2, hk, hk', spT]
@[simp] theorem gEnum_tup {l : List D} : gEnum [.tup l] = some (enumD 0 l) := rfl
theorem shifted_ok {F : List Fm} {c : Nat} {v : Int} {s : Sto} (h : F.length ≤ 100) : f_shifted [.tup (F.map fD), spT (.sh c v), .fn "more_form"] s = .ok (.tup ((shF F c v).map fD)) s := by
  have := shift_lc (c := c) (v := v) (a := some (.tup (F.map fD))) (b := none) (s := s) (k := 0) (F := F) (by omega)
  simp [f_shifted, defF_ap, this, shF]
end G

end
section
namespace G
open PySem PySem.Spec L2
def forK (r : SRes) (k : Env → Sto → SRes) : SRes := match r with
  | .ok .nx e s => k e s
  | .ok .ct e s => k e s
  | .ok .bk e s => .ok .nx e s
  | .ok (.rt d) e s => .ok (.rt d) e s
  | .err x e s => .err x e s
  | .bad => .bad
@[simp] theorem forK_nx {e : Env} {s : Sto} {k} : forK (.ok .nx e s) k = k e s := rfl
@[simp] theorem forK_ct {e : Env} {s : Sto} {k} : forK (.ok .ct e s) k = k e s := rfl
@[simp] theorem forK_bk {e : Env} {s : Sto} {k} : forK (.ok .bk e s) k = .ok .nx e s := rfl
@[simp] theorem forK_rt {e : Env} {s : Sto} {d : D} {k} : forK (.ok (.rt d) e s) k = .ok (.rt d) e s := rfl
theorem forL_c {p : Pat} {body : SM} {d : D} {ds : List D} {env env1 : Env} {s : Sto} (h : p.bind d env = some env1) : forL p body (d :: ds) env s = forK (body env1 s) fun e s => forL p body ds e s := by
  conv => lhs; unfold forL
  rw [h]
  dsimp only
  generalize body env1 s = r
  cases r with
  | ok fl e s => cases fl <;> rfl
  | _ => rfl
@[simp] theorem forL_n {p : Pat} {body : SM} {env : Env} {s : Sto} : forL p body [] env s = .ok .nx env s := rfl
@[simp] theorem bind_nm {i : Nat} {d : D} {env : Env} : Pat.bind (.nm i) d env = some (env.set i (some d)) := by simp [Pat.bind]
def lineD (r : RS) : D := .tup [.tup (r.w.map .bl), .tup (r.F.map fD), .lst (r.R.map rD)]
@[simp] theorem dNotN_t {s : Sto} {l : List D} : dNotN s (.tup l) .non = some (.bl true) := rfl
@[simp] theorem dIsN_t {s : Sto} {l : List D} : dIsN s (.tup l) .non = some (.bl false) := rfl
theorem truths_ok {w told : List Bool} {s : Sto} (h : w.length < told.length) : f_truths_at [.tup (w.map .bl), .tup (told.map .bl)] s = .ok (.tup [.bl (told.getD w.length false)]) s := by
  have : atI (told.map D.bl) ((w.length : Nat) : Int) = some (.bl (told.getD w.length false)) := by
    rw [atI_nat (by omega) (by simpa using h)]
    simp [h, List.getD]
  simp [f_truths_at, defF_ap, this]
theorem br0 {m : Nat} {told : List Bool} {r : RS} {t : Tst} {s : Sto} {x1 x2 x3 x6 x13 x14 x15 : Option D} {l5 : Option D} (hF : r.F.length = 2 * m) (hm : m ≤ 3) (ht : t.ok (2 * m)) (hw : r.w.length ≤ 1000) (hR : r.R.length ≤ 1000) (b : Bool) :
    ∃ y13 y14 y15, lb_branches_0 [some (.int m), x1, x2, x3, some (.tup (told.map .bl)), l5, x6, some (.tup (r.w.map .bl)), some (.tup (r.F.map fD)), some (.lst (r.R.map rD)), some (tD t), some (.lst []), some (.bl b), x13, x14, x15] s =
      .ok .nx [some (.int m), x1, x2, x3, some (.tup (told.map .bl)), l5, x6, some (.tup (r.w.map .bl)), some (.tup (r.F.map fD)), some (.lst (r.R.map rD)), some (tD t), some (.lst [lineD (goT b r t)]), some (.bl b), y13, y14, y15] s := by
  have ht' : t.ok r.F.length := by rw [hF]; exact ht
  have tr := fun s => test_row_ok (F := r.F) (t := t) (b := b) (s := s) ht'
  have a5 := atI_F (F := r.F) (i := t.s) ht'.2.2.2
  have mf := fun s => more_form_ok (p := fAt r.F t.s) (v := t.k) (s := s)
  have pu := fun s => put_ok (F := r.F) (i := t.at_) (p := ((fAt r.F t.s).1, (fAt r.F t.s).2 + t.k)) (s := s) ht'.2.2.1 (by omega)
  have t3 : ∀ s, gIx s (tD t) (.int 3) = some (.int t.at_) := fun _ => by simp [tD]
  have t4 : ∀ s, gIx s (tD t) (.int 4) = some (.int t.s) := fun _ => by
    show atI _ 4 = _
    unfold atI ixN; simp
  have t5 : ∀ s, gIx s (tD t) (.int 5) = some (.int t.k) := fun _ => by
    show atI _ 5 = _
    unfold atI ixN; simp
  have a1 : ∀ s, dAdd s (.tup (r.w.map .bl)) (.tup [.bl b]) = some (.tup (r.w.map .bl ++ [.bl b])) := fun s => dAdd_tt (by simp; omega)
  have a2 : ∀ s x, dAdd s (.lst (r.R.map rD)) (.lst [x]) = some (.lst (r.R.map rD ++ [x])) := fun s x => dAdd_ll (by simp; omega)
  have a3 : ∀ s x, dAdd s (.lst []) (.lst [x]) = some (.lst [x]) := fun s x => dAdd_ll (by simp)
  refine ⟨some (rD (rowOf r.F t b)), some (fD ((fAt r.F t.s).1, (fAt r.F t.s).2 + t.k)), some (.tup ((putF r.F t b).map fD)), ?_⟩
  cases b
  · simp [lb_branches_0, tr, t3, t4, t5, a5, mf, a1, a2, a3, lineD, goT, putF]
  · simp [lb_branches_0, tr, t3, t4, t5, a5, mf, pu, a1, a2, a3, lineD, goT, putF]
theorem br2 {m : Nat} {told : List Bool} {r : RS} {t : Tst} {s : Sto} {x1 x2 x3 x6 x7 x8 x9 x11 x12 x13 x14 x15 : Option D} (hF : r.F.length = 2 * m) (hm : m ≤ 3) (ht : t.ok (2 * m)) (hw : r.w.length < told.length) (hw2 : told.length ≤ 1000) (hR : r.R.length ≤ 1000) :
    ∃ y7 y8 y9 y11 y12 y13 y14 y15, lb_branches_2 [some (.int m), x1, x2, x3, some (.tup (told.map .bl)), some (.lst [lineD r]), x6, x7, x8, x9, some (tD t), x11, x12, x13, x14, x15] s =
      .ok .nx [some (.int m), x1, x2, x3, some (.tup (told.map .bl)), some (.lst [lineD (goT (told.getD r.w.length false) r t)]), x6, y7, y8, y9, some (tD t), y11, y12, y13, y14, y15] s := by
  have tru := fun s => truths_ok (w := r.w) (told := told) (s := s) hw
  obtain ⟨y13, y14, y15, e0⟩ := br0 (told := told) (s := s) (x1 := x1) (x2 := x2) (x3 := x3) (x6 := x6) (x13 := x13) (x14 := x14) (x15 := x15) (l5 := some (.lst [lineD r])) hF hm ht (by omega) hR (told.getD r.w.length false)
  generalize told.getD r.w.length false = b at *
  refine ⟨some (.tup (r.w.map .bl)), some (.tup (r.F.map fD)), some (.lst (r.R.map rD)), some (.lst [lineD (goT b r t)]), some (.bl b), y13, y14, y15, ?_⟩
  have bl : ∀ env, Pat.bind (.tp [.nm 7, .nm 8, .nm 9]) (lineD r) env = some (((env.set 7 (some (.tup (r.w.map .bl)))).set 8 (some (.tup (r.F.map fD)))).set 9 (some (.lst (r.R.map rD)))) := fun env => bind_tp3
  simp [lb_branches_2, lb_branches_1, forL_c (bl _), forL_c bind_nm, tru, e0]
theorem goT_len {b : Bool} {r : RS} {t : Tst} : (goT b r t).F.length = r.F.length ∧ (goT b r t).R.length = r.R.length + 1 ∧ (goT b r t).w.length = r.w.length + 1 := by
  refine ⟨?_, by simp [goT], by simp [goT]⟩
  unfold goT putF
  split <;> simp
/-- the tests of one step -/
theorem br_tests {m : Nat} {told : List Bool} {x1 x2 x3 x6 : Option D} {s : Sto} (hm : m ≤ 3) (hw2 : told.length ≤ 1000) : ∀ {ts : List Tst} {r : RS} {x7 x8 x9 x10 x11 x12 x13 x14 x15 : Option D}, r.F.length = 2 * m → (∀ t ∈ ts, t.ok (2 * m)) → r.w.length + ts.length ≤ told.length → r.R.length + ts.length ≤ 1000 →
    ∃ y7 y8 y9 y10 y11 y12 y13 y14 y15, forL (.nm 10) lb_branches_2 (ts.map tD) [some (.int m), x1, x2, x3, some (.tup (told.map .bl)), some (.lst [lineD r]), x6, x7, x8, x9, x10, x11, x12, x13, x14, x15] s =
      .ok .nx [some (.int m), x1, x2, x3, some (.tup (told.map .bl)), some (.lst [lineD (goTs told ts r)]), x6, y7, y8, y9, y10, y11, y12, y13, y14, y15] s
  | [], r, x7, x8, x9, x10, x11, x12, x13, x14, x15, _, _, _, _ => ⟨x7, x8, x9, x10, x11, x12, x13, x14, x15, rfl⟩
  | t :: ts, r, x7, x8, x9, x10, x11, x12, x13, x14, x15, hF, ht, hw, hR => by
    simp at hw hR
    obtain ⟨y7, y8, y9, y11, y12, y13, y14, y15, e⟩ := br2 (told := told) (r := r) (t := t) (s := s) (x1 := x1) (x2 := x2) (x3 := x3) (x6 := x6) (x7 := x7) (x8 := x8) (x9 := x9) (x11 := x11) (x12 := x12) (x13 := x13) (x14 := x14) (x15 := x15) hF hm (ht t (List.mem_cons_self ..)) (by omega) hw2 (by omega)
    obtain ⟨g1, g2, g3⟩ := goT_len (b := told.getD r.w.length false) (r := r) (t := t)
    obtain ⟨z7, z8, z9, z10, z11, z12, z13, z14, z15, e2⟩ := br_tests (x1 := x1) (x2 := x2) (x3 := x3) (x6 := x6) (s := s) hm hw2 (ts := ts) (r := goT (told.getD r.w.length false) r t) (x7 := y7) (x8 := y8) (x9 := y9) (x10 := some (tD t)) (x11 := y11) (x12 := y12) (x13 := y13) (x14 := y14) (x15 := y15) (by rw [g1]; exact hF) (fun z hz => ht z (List.mem_cons_of_mem _ hz)) (by omega) (by omega)
    refine ⟨z7, z8, z9, z10, z11, z12, z13, z14, z15, ?_⟩
    rw [List.map_cons, forL_c bind_nm]
    show forK (lb_branches_2 [some (.int m), x1, x2, x3, some (.tup (told.map .bl)), some (.lst [lineD r]), x6, x7, x8, x9, some (tD t), x11, x12, x13, x14, x15] s) _ = _
    rw [e]
    exact e2
end G

end
section
namespace G
open PySem PySem.Spec L2
theorem shS_len {s : Sp} {r : RS} : (shS s r).F.length = r.F.length ∧ (shS s r).R = r.R ∧ (shS s r).w = r.w := by
  cases s <;> simp [shS, shF, shK_len]
theorem goTs_len {told : List Bool} : ∀ {ts : List Tst} {r : RS}, (goTs told ts r).F.length = r.F.length ∧ (goTs told ts r).R.length = r.R.length + ts.length ∧ (goTs told ts r).w.length = r.w.length + ts.length
  | [], r => ⟨rfl, rfl, rfl⟩
  | t :: ts, r => by
    obtain ⟨a, b, c⟩ := goTs_len (told := told) (ts := ts) (r := goT (told.getD r.w.length false) r t)
    obtain ⟨g1, g2, g3⟩ := goT_len (b := told.getD r.w.length false) (r := r) (t := t)
    unfold goTs
    exact ⟨a.trans g1, by rw [b, g2, List.length_cons]; omega, by rw [c, g3, List.length_cons]; omega⟩
theorem testsL_len {m : Nat} {s : Sp} (hm : m = 1 ∨ m = 2 ∨ m = 3) : (testsL m s).length ≤ 3 := by
  rcases hm with rfl | rfl | rfl <;> cases s <;> simp [testsL, cuesOf, List.range, List.range.loop]
theorem br3 {m : Nat} {told : List Bool} {r : RS} {sp : Sp} {s : Sto} {x1 x2 x3 x7 x8 x9 x10 x11 x12 x13 x14 x15 : Option D} (hm : m = 1 ∨ m = 2 ∨ m = 3) (hF : r.F.length = 2 * m) (hw2 : told.length ≤ 1000) (hw : r.w.length + (testsL m sp).length ≤ told.length) (hR : r.R.length + (testsL m sp).length ≤ 1000) :
    ∃ y7 y8 y9 y10 y11 y12 y13 y14 y15, lb_branches_3 [some (.int m), x1, x2, x3, some (.tup (told.map .bl)), some (.lst [lineD r]), some (spT sp), x7, x8, x9, x10, x11, x12, x13, x14, x15] s =
      .ok .nx [some (.int m), x1, x2, x3, some (.tup (told.map .bl)), some (.lst [lineD (goTs told (testsL m sp) (shS sp r))]), some (spT sp), y7, y8, y9, y10, y11, y12, y13, y14, y15] s := by
  have hm3 : m ≤ 3 := by omega
  have tst := fun s => tests_of_ok (s := sp) (st := s) hm
  by_cases hs : ∃ c v, sp = .sh c v
  · obtain ⟨c, v, rfl⟩ := hs
    refine ⟨x7, x8, x9, x10, x11, x12, x13, x14, x15, ?_⟩
    have sh := fun s => shifted_ok (F := r.F) (c := c) (v := v) (s := s) (by omega)
    have bl : ∀ env, Pat.bind (.tp [.nm 7, .nm 8, .nm 9]) (lineD r) env = some (((env.set 7 (some (.tup (r.w.map .bl)))).set 8 (some (.tup (r.F.map fD)))).set 9 (some (.lst (r.R.map rD)))) := fun env => bind_tp3
    have lc : lcL (.tp [.nm 7, .nm 8, .nm 9]) bYes le_branches_0 [some (.int m), x1, x2, x3, some (.tup (told.map .bl)), some (.lst [lineD r]), some (spT (.sh c v)), none, none, none, x10, x11, x12, x13, x14, x15] [lineD r] s = .ok [lineD (shS (.sh c v) r)] s :=
      lcL_p (bl _) (by simp [le_branches_0, sh]; rfl) rfl
    have tst' : ∀ s, f_tests_of [.int m, spT (.sh c v)] s = .ok (.lst []) s := fun s => by rw [tst]; rfl
    have e0 : ∀ s, gIx s (spT (.sh c v)) (.int 0) = some (.str "shift") := fun _ => by simp [spT]
    simp [lb_branches_3, e0, dEq_ss okD_shift okD_shift, lc, tst', testsL, cuesOf, goTs]
  · obtain ⟨y7, y8, y9, y10, y11, y12, y13, y14, y15, e⟩ := br_tests (m := m) (told := told) (x1 := x1) (x2 := x2) (x3 := x3) (x6 := some (spT sp)) (s := s) hm3 hw2 (ts := testsL m sp) (r := r) (x7 := x7) (x8 := x8) (x9 := x9) (x10 := x10) (x11 := x11) (x12 := x12) (x13 := x13) (x14 := x14) (x15 := x15) hF (fun t ht => testsL_ok hm ht) hw hR
    refine ⟨y7, y8, y9, y10, y11, y12, y13, y14, y15, ?_⟩
    cases sp with
    | sh c v => exact absurd ⟨c, v, rfl⟩ hs
    | la v =>
      have e0 : ∀ s, gIx s (spT (.la v)) (.int 0) = some (.str "later") := fun _ => by simp [spT]
      simp [lb_branches_3, e0, dEq_ss okD_later okD_shift, tst, e, shS]
    | ea v =>
      have e0 : ∀ s, gIx s (spT (.ea v)) (.int 0) = some (.str "earlier") := fun _ => by simp [spT]
      simp [lb_branches_3, e0, dEq_ss okD_earlier okD_shift, tst, e, shS]
    | lo v =>
      have e0 : ∀ s, gIx s (spT (.lo v)) (.int 0) = some (.str "longer") := fun _ => by simp [spT]
      simp [lb_branches_3, e0, dEq_ss okD_longer okD_shift, tst, e, shS]
    | so v =>
      have e0 : ∀ s, gIx s (spT (.so v)) (.int 0) = some (.str "shorter") := fun _ => by simp [spT]
      simp [lb_branches_3, e0, dEq_ss okD_shorter okD_shift, tst, e, shS]
def manyT (m : Nat) (ss : List Sp) : Nat := (ss.map fun s => (testsL m s).length).sum
theorem br_steps {m : Nat} {told : List Bool} {x1 x2 x3 : Option D} {s : Sto} (hm : m = 1 ∨ m = 2 ∨ m = 3) (hw2 : told.length ≤ 1000) : ∀ {ss : List Sp} {r : RS} {x6 x7 x8 x9 x10 x11 x12 x13 x14 x15 : Option D}, r.F.length = 2 * m → r.w.length + manyT m ss ≤ told.length → r.R.length + manyT m ss ≤ 1000 →
    ∃ y6 y7 y8 y9 y10 y11 y12 y13 y14 y15, forL (.nm 6) lb_branches_3 (ss.map spT) [some (.int m), x1, x2, x3, some (.tup (told.map .bl)), some (.lst [lineD r]), x6, x7, x8, x9, x10, x11, x12, x13, x14, x15] s =
      .ok .nx [some (.int m), x1, x2, x3, some (.tup (told.map .bl)), some (.lst [lineD (goS m told ss r)]), y6, y7, y8, y9, y10, y11, y12, y13, y14, y15] s
  | [], r, x6, x7, x8, x9, x10, x11, x12, x13, x14, x15, _, _, _ => ⟨x6, x7, x8, x9, x10, x11, x12, x13, x14, x15, rfl⟩
  | sp :: ss, r, x6, x7, x8, x9, x10, x11, x12, x13, x14, x15, hF, hw, hR => by
    simp [manyT] at hw hR
    obtain ⟨y7, y8, y9, y10, y11, y12, y13, y14, y15, e⟩ := br3 (m := m) (told := told) (r := r) (sp := sp) (s := s) (x1 := x1) (x2 := x2) (x3 := x3) (x7 := x7) (x8 := x8) (x9 := x9) (x10 := x10) (x11 := x11) (x12 := x12) (x13 := x13) (x14 := x14) (x15 := x15) hm hF hw2 (by omega) (by omega)
    obtain ⟨g1, g2, g3⟩ := goTs_len (told := told) (ts := testsL m sp) (r := shS sp r)
    obtain ⟨k1, k2, k3⟩ := shS_len (s := sp) (r := r)
    rw [k2] at g2
    rw [k3] at g3
    rw [k1] at g1
    obtain ⟨z6, z7, z8, z9, z10, z11, z12, z13, z14, z15, e2⟩ := br_steps (x1 := x1) (x2 := x2) (x3 := x3) (s := s) hm hw2 (ss := ss) (r := goTs told (testsL m sp) (shS sp r)) (x6 := some (spT sp)) (x7 := y7) (x8 := y8) (x9 := y9) (x10 := y10) (x11 := y11) (x12 := y12) (x13 := y13) (x14 := y14) (x15 := y15) (by rw [g1]; exact hF) (by unfold manyT; omega) (by unfold manyT; omega)
    refine ⟨z6, z7, z8, z9, z10, z11, z12, z13, z14, z15, ?_⟩
    rw [List.map_cons, forL_c bind_nm]
    show forK (lb_branches_3 [some (.int m), x1, x2, x3, some (.tup (told.map .bl)), some (.lst [lineD r]), some (spT sp), x7, x8, x9, x10, x11, x12, x13, x14, x15] s) _ = _
    rw [e]
    exact e2
theorem branches_ok {m : Nat} {told : List Bool} {ss : List Sp} {F : List Fm} {R : List Rw} {s : Sto} (hm : m = 1 ∨ m = 2 ∨ m = 3) (hw2 : told.length ≤ 900) (hF : F.length = 2 * m) (hw : manyT m ss ≤ told.length) (hR : R.length ≤ 100) :
    f_branches [.int m, .tup (ss.map spT), .tup (F.map fD), .lst (R.map rD), .tup (told.map .bl)] s = .ok (.lst [lineD (goS m told ss ⟨F, R, []⟩)]) s := by
  obtain ⟨y6, y7, y8, y9, y10, y11, y12, y13, y14, y15, e⟩ := br_steps (m := m) (told := told) (x1 := some (.tup (ss.map spT))) (x2 := some (.tup (F.map fD))) (x3 := some (.lst (R.map rD))) (s := s) hm (by omega) (ss := ss) (r := ⟨F, R, []⟩) (x6 := none) (x7 := none) (x8 := none) (x9 := none) (x10 := none) (x11 := none) (x12 := none) (x13 := none) (x14 := none) (x15 := none) hF (by simpa using hw) (by simp; omega)
  have el : D.lst [lineD ⟨F, R, []⟩] = .lst [.tup [.tup [], .tup (F.map fD), .lst (R.map rD)]] := rfl
  rw [el] at e
  simp [f_branches, defF_ap, e]
end G

end
section
namespace G
open PySem PySem.Spec L2
theorem lc_mapL {α : Type} {f : E} {h g : α → D} {env : Env} {i : Nat} {s : Sto} : ∀ {l : List α}, (∀ x ∈ l, f (env.set i (some (h x))) s = .ok (g x) s) → lcL (.nm i) bYes f env (l.map h) s = .ok (l.map g) s
  | [], _ => rfl
  | x :: l, hh => lcL_p bind_nm (hh x (List.mem_cons_self ..)) (lc_mapL fun z hz => hh z (List.mem_cons_of_mem _ hz))
abbrev Gp := Int × Int × Int
def gpD (g : Gp) : D := .tup [.int g.1, .int g.2.1, .int g.2.2]
def Gp.ok (m : Nat) (g : Gp) : Prop := isGapD m (gpD g)
theorem isGapDs {m : Nat} : ∀ {l : List D}, (∀ d ∈ l, isGapD m d) → ∃ gs : List Gp, l = gs.map gpD ∧ ∀ g ∈ gs, Gp.ok m g
  | [], _ => ⟨[], rfl, fun _ h => nomatch h⟩
  | d :: l, h => by
    have hd := h d (List.mem_cons_self ..)
    obtain ⟨i, j, v, e, _⟩ := id hd
    obtain ⟨gs, e2, hgs⟩ := isGapDs (l := l) fun z hz => h z (List.mem_cons_of_mem _ hz)
    subst e
    exact ⟨(i, j, v) :: gs, by rw [e2]; rfl, fun z hz => by
      rcases List.mem_cons.mp hz with q | q
      · rw [q]; exact hd
      · exact hgs z q⟩
def gR (g : Gp) : Rw := (g.1, g.2.1, g.2.2, false)
def bookD (m : Nat) (gs : List Gp) : D := .tup [.int m, .tup (gs.map gpD)]
def scrD (ss : List Sp) : D := .tup (ss.map spT)
def firstF (m : Nat) : List Fm := (List.range (2 * m)).map fun (i : Nat) => ((i : Int), (0 : Int))
theorem fact_rows_ok {m : Nat} {gs : List Gp} {s : Sto} : f_fact_rows [bookD m gs] s = .ok (.lst ((gs.map gR).map rD)) s := by
  have lc : lcL (.nm 1) bYes le_fact_rows_0 [some (bookD m gs), none] (gs.map gpD) s = .ok (gs.map fun g => rD (gR g)) s := lc_mapL fun g hg => by
    have ad : ∀ s, dAdd s (gpD g) (.tup [.bl false]) = some (rD (gR g)) := fun s => dAdd_tt (by simp)
    simp [le_fact_rows_0, ad]
  have e1 : ∀ s, gIx s (bookD m gs) (.int 1) = some (.tup (gs.map gpD)) := fun _ => by simp [bookD]
  simp [f_fact_rows, defF_ap, e1, lc]
theorem first_forms_ok {m : Nat} {s : Sto} (hm : m = 1 ∨ m = 2 ∨ m = 3) : f_first_forms [.int m] s = .ok (.tup ((firstF m).map fD)) s := by
  have r1 : (-100000 : Int) ≤ 2 * m ∧ (2 * m : Int) ≤ 100000 := by omega
  have lc : lcL (.nm 1) bYes le_first_forms_0 [some (.int m), none] (rngD 0 (2 * (m : Int)).toNat) s = .ok ((List.range (2 * m)).map fun (i : Nat) => fD ((i : Int), (0 : Int))) s := by
    have e : (2 * (m : Int)).toNat = 2 * m := by omega
    rw [e]
    unfold rngD
    exact lc_mapL fun i hi => by simp [le_first_forms_0, fD]
  simp [f_first_forms, defF_ap, mul2, r1, lc, firstF]
theorem firstF_len {m : Nat} : (firstF m).length = 2 * m := by simp [firstF]
theorem run_by_ok {m : Nat} {gs : List Gp} {ss : List Sp} {told : List Bool} {s : Sto} (hm : m = 1 ∨ m = 2 ∨ m = 3) (hg : gs.length ≤ 100) (hw2 : told.length ≤ 900) (hw : manyT m ss ≤ told.length) :
    f_run_by [bookD m gs, scrD ss, .tup (told.map .bl)] s = .ok (lineD (goS m told ss ⟨firstF m, gs.map gR, []⟩)) s := by
  have e0 : ∀ s, gIx s (bookD m gs) (.int 0) = some (.int m) := fun _ => by simp [bookD]
  have b := fun s => branches_ok (m := m) (told := told) (ss := ss) (F := firstF m) (R := gs.map gR) (s := s) hm hw2 firstF_len hw (by simpa using hg)
  simp only [List.map_map] at b
  have fr := fun s => fact_rows_ok (m := m) (gs := gs) (s := s)
  simp only [List.map_map] at fr
  simp [f_run_by, defF_ap, e0, first_forms_ok hm, fr, scrD, b]
/-! the word is looked at -/
theorem asInts_map : ∀ l : List Int, asInts (l.map .int) = some l
  | [] => rfl
  | x :: l => by simp [asInts, asInts_map l]
theorem gSum_map {s : Sto} {l : List Int} : gSum s [.lst (l.map .int)] = some (.int l.sum) := by
  unfold gSum
  simp [asInts_map]
theorem spT_ok {m : Nat} {sp : Sp} (h : sp.ok m) (hm : m ≤ 3) : isStep m (spT sp) = true ∧ okT 2 (spT sp) := by
  have a1 : okT 1 (.str "shift") := okT_str (by decide)
  have a2 : okT 1 (.str "later") := okT_str (by decide)
  have a3 : okT 1 (.str "earlier") := okT_str (by decide)
  have a4 : okT 1 (.str "longer") := okT_str (by decide)
  have a5 : okT 1 (.str "shorter") := okT_str (by decide)
  cases sp with
  | sh c v =>
    unfold Sp.ok at h
    refine ⟨?_, okT_tupI (by simp [a1])⟩
    have b1 : (c : Int) ≤ m - 1 := by omega
    have b2 : (-1000 : Int) ≤ v := by omega
    have b3 : v ≤ 1000 := by omega
    simp [spT, isStep, isFrom, b1, b2, b3]
  | la v =>
    unfold Sp.ok at h
    refine ⟨?_, okT_pair a2 okT_int⟩
    have b3 : v ≤ 1000 := by omega
    simp [spT, isStep, isFrom, h.1, b3, words4]
  | ea v =>
    unfold Sp.ok at h
    refine ⟨?_, okT_pair a3 okT_int⟩
    have b3 : v ≤ 1000 := by omega
    simp [spT, isStep, isFrom, h.1, b3, words4]
  | lo v =>
    unfold Sp.ok at h
    refine ⟨?_, okT_pair a4 okT_int⟩
    have b3 : v ≤ 1000 := by omega
    simp [spT, isStep, isFrom, h.1, b3, words4]
  | so v =>
    unfold Sp.ok at h
    refine ⟨?_, okT_pair a5 okT_int⟩
    have b3 : v ≤ 1000 := by omega
    simp [spT, isStep, isFrom, h.1, b3, words4]
theorem book_is {m : Nat} {gs : List Gp} (hm : m = 1 ∨ m = 2 ∨ m = 3) (hg : gs.length ≤ 6) (hgs : ∀ g ∈ gs, Gp.ok m g) : isBook (bookD m gs) = true ∧ okT 3 (bookD m gs) := by
  have h1 : (1 : Int) ≤ m := by omega
  have h3 : (m : Int) ≤ 3 := by omega
  refine ⟨?_, okT_tupI ?_⟩
  · have : (gs.map gpD).all (isGap (m : Int)) = true := by
      rw [List.all_eq_true]
      intro d hd
      obtain ⟨g, hg', e⟩ := List.mem_map.mp hd
      rw [← e]
      exact (hgs g hg').ok.1
    unfold bookD isBook
    simp only [isFrom, gapsOk, cOf, this, List.length_map, hg, h1, h3]
    rfl
  · intro y hy
    simp at hy
    rcases hy with rfl | rfl
    · exact okT_int
    · refine okT_tupI (fun d hd => ?_) (by simp; omega)
      obtain ⟨g, hg', e⟩ := List.mem_map.mp hd
      rw [← e]
      exact (hgs g hg').ok.2
theorem scr_is {m : Nat} {ss : List Sp} (hm : m ≤ 3) (hl : ss.length ≤ 5) (hs : ∀ s ∈ ss, s.ok m) : isScript m (scrD ss) = true ∧ okT 3 (scrD ss) := by
  refine ⟨?_, okT_tupI (fun d hd => ?_) (by simp; omega)⟩
  · have : (ss.map spT).all (isStep (m : Int)) = true := by
      rw [List.all_eq_true]
      intro d hd
      obtain ⟨g, hg', e⟩ := List.mem_map.mp hd
      rw [← e]
      exact (spT_ok (hs g hg') hm).1
    unfold scrD isScript
    simp only [this, List.length_map, hl]
    rfl
  · obtain ⟨g, hg', e⟩ := List.mem_map.mp hd
    rw [← e]
    exact (spT_ok (hs g hg') hm).2
theorem needs_ok {m : Nat} {gs : List Gp} {ss : List Sp} {s : Sto} (hm : m = 1 ∨ m = 2 ∨ m = 3) (hg : gs.length ≤ 6) (hgs : ∀ g ∈ gs, Gp.ok m g) (hl : ss.length ≤ 5) (hs : ∀ s ∈ ss, s.ok m) : f_need_book [bookD m gs] s = .ok .non s ∧ f_need_script [.int m, scrD ss] s = .ok .non s := by
  obtain ⟨b1, b2⟩ := book_is hm hg hgs
  obtain ⟨c1, c2⟩ := scr_is (by omega : m ≤ 3) hl hs
  constructor
  · simp [f_need_book, defF_ap, good_book_ok b2 (by omega), b1]
  · simp [f_need_script, defF_ap, good_script_ok c2 (by omega), c1]
theorem many_lc {m : Nat} {gs : List Gp} {ss : List Sp} {w : D} {x3 x5 : Option D} {s : Sto} (hm : m = 1 ∨ m = 2 ∨ m = 3) : lcL (.nm 4) bYes le_need_word_0 [some (bookD m gs), some (scrD ss), some w, x3, none, x5] (ss.map spT) s = .ok ((ss.map fun sp => ((testsL m sp).length : Int)).map .int) s := by
  rw [List.map_map]
  refine lc_mapL fun sp hsp => ?_
  have e0 : ∀ s, gIx s (bookD m gs) (.int 0) = some (.int m) := fun _ => by simp [bookD]
  simp [le_need_word_0, e0, tests_of_ok hm]
theorem sum_cast : ∀ l : List Nat, (l.map fun (n : Nat) => (n : Int)).sum = (l.sum : Int)
  | [] => rfl
  | x :: l => by simp [sum_cast l]
theorem need_word_ok {m : Nat} {gs : List Gp} {ss : List Sp} {told : List Bool} {s : Sto} (hm : m = 1 ∨ m = 2 ∨ m = 3) (hg : gs.length ≤ 6) (hgs : ∀ g ∈ gs, Gp.ok m g) (hl : ss.length ≤ 5) (hs : ∀ s ∈ ss, s.ok m) (hw : told.length = manyT m ss) :
    f_need_word [bookD m gs, scrD ss, .tup (told.map .bl)] s = .ok .non s := by
  obtain ⟨n1, n2⟩ := needs_ok (s := s) hm hg hgs hl hs
  have e0 : ∀ s, gIx s (bookD m gs) (.int 0) = some (.int m) := fun _ => by simp [bookD]
  have lc := many_lc (m := m) (gs := gs) (ss := ss) (w := .tup (told.map .bl)) (x3 := none) (x5 := none) (s := s) hm
  have es : (ss.map fun sp => ((testsL m sp).length : Int)).sum = (told.length : Int) := by
    rw [hw]
    unfold manyT
    rw [← sum_cast, List.map_map]
    rfl
  have gsm : ∀ s, gSum s [.lst (ss.map (D.int ∘ fun sp => ((testsL m sp).length : Int)))] = some (.int told.length) := fun s => by rw [← List.map_map, gSum_map, es]
  have lb : lcL (.nm 5) bYes le_need_word_1 [some (bookD m gs), some (scrD ss), some (.tup (told.map .bl)), some (.int told.length), none, none] (told.map .bl) s = .ok (told.map fun _ => .bl true) s := lc_mapL fun b hb => by
    simp [le_need_word_1, tyN, isiB]
  have al : gAll s [.lst (told.map fun _ => .bl true)] = some (.bl true) := by
    have := gAll_map (s := s) (g := fun _ => true) (l := told.map D.bl)
    simp only [List.map_map] at this
    exact this.trans (by simp)
  have e1 : seqOf (scrD ss) = some (ss.map spT) := rfl
  simp [f_need_word, defF_ap, n1, n2, e0, e1, lc, gsm, tyN, isiB, dNe, lb, al]
theorem need_word_bad {m : Nat} {gs : List Gp} {ss : List Sp} {w : D} {s : Sto} (hm : m = 1 ∨ m = 2 ∨ m = 3) (hg : gs.length ≤ 6) (hgs : ∀ g ∈ gs, Gp.ok m g) (hl : ss.length ≤ 5) (hs : ∀ s ∈ ss, s.ok m) (hw : w = .non ∨ (∃ l, w = .lst l) ∨ ∃ l, w = .tup l ∧ l.length ≠ manyT m ss) :
    f_need_word [bookD m gs, scrD ss, w] s = .err { cls := "InvalidWord" } s := by
  obtain ⟨n1, n2⟩ := needs_ok (s := s) hm hg hgs hl hs
  have e0 : ∀ s, gIx s (bookD m gs) (.int 0) = some (.int m) := fun _ => by simp [bookD]
  have lc := many_lc (m := m) (gs := gs) (ss := ss) (w := w) (x3 := none) (x5 := none) (s := s) hm
  have es : (ss.map fun sp => ((testsL m sp).length : Int)).sum = (manyT m ss : Int) := by
    unfold manyT
    rw [← sum_cast, List.map_map]
    rfl
  have gsm : ∀ s, gSum s [.lst (ss.map (D.int ∘ fun sp => ((testsL m sp).length : Int)))] = some (.int (manyT m ss)) := fun s => by rw [← List.map_map, gSum_map, es]
  have e1 : seqOf (scrD ss) = some (ss.map spT) := rfl
  rcases hw with rfl | ⟨l, rfl⟩ | ⟨l, rfl, hl2⟩
  · simp [f_need_word, defF_ap, n1, n2, e0, e1, lc, gsm, tyN, isiB]
  · simp [f_need_word, defF_ap, n1, n2, e0, e1, lc, gsm, tyN, isiB]
  · have hne : ¬ ((l.length : Int) = manyT m ss) := by omega
    simp [f_need_word, defF_ap, n1, n2, e0, e1, lc, gsm, tyN, isiB, dNe, hne]
end G

end
section
namespace G
open PySem PySem.Spec L2
section
variable {m : Nat} {gs : List Gp} {ss : List Sp} {told : List Bool} {s : Sto}
/-- a case of the law's -/
structure Case (m : Nat) (gs : List Gp) (ss : List Sp) : Prop where
  hm : m = 1 ∨ m = 2 ∨ m = 3
  hg : gs.length ≤ 6
  hgs : ∀ g ∈ gs, Gp.ok m g
  hl : ss.length ≤ 5
  hs : ∀ s ∈ ss, s.ok m
def resS (m : Nat) (gs : List Gp) (ss : List Sp) (told : List Bool) : RS := goS m told ss ⟨firstF m, gs.map gR, []⟩
theorem manyT_le (hm : m = 1 ∨ m = 2 ∨ m = 3) : ∀ {ss : List Sp}, manyT m ss ≤ 3 * ss.length
  | [] => by simp [manyT]
  | s :: ss => by
    have h1 := testsL_len (s := s) hm
    have h2 := manyT_le hm (ss := ss)
    simp [manyT] at h2 ⊢
    omega
theorem forms_ok (C : Case m gs ss) (hw : told.length = manyT m ss) : f_forms [bookD m gs, scrD ss, .tup (told.map .bl)] s = .ok (.tup ((resS m gs ss told).F.map fD)) s := by
  have h15 := manyT_le C.hm (ss := ss)
  have hl := C.hl
  have hg := C.hg
  have rb := fun s => run_by_ok (m := m) (gs := gs) (ss := ss) (told := told) (s := s) C.hm (by omega) (by omega) (by omega)
  simp [f_forms, defF_ap, need_word_ok C.hm C.hg C.hgs C.hl C.hs hw, rb, lineD, resS]
theorem rows_ok (C : Case m gs ss) (hw : told.length = manyT m ss) : f_rows [bookD m gs, scrD ss, .tup (told.map .bl)] s = .ok (.lst ((resS m gs ss told).R.map rD)) s := by
  have h15 := manyT_le C.hm (ss := ss)
  have hl := C.hl
  have hg := C.hg
  have rb := fun s => run_by_ok (m := m) (gs := gs) (ss := ss) (told := told) (s := s) C.hm (by omega) (by omega) (by omega)
  simp [f_rows, defF_ap, need_word_ok C.hm C.hg C.hgs C.hl C.hs hw, rb, lineD, resS]
/-! the law's own way -/
theorem law_form_ok {p : Fm} {v : Int} {s : Sto} : f__law_form [fD p, .int v] s = .ok (fD (p.1, p.2 + v)) s := by
  simp [f__law_form, defF_ap, fD]
theorem law_base_ok {s : Sto} : f__law_base [.tup (gs.map gpD)] s = .ok (.lst ((gs.map gR).map rD)) s := by
  have lc : ∀ s, lcL (.nm 1) bYes le__law_base_0 [some (.tup (gs.map gpD)), none] (gs.map gpD) s = .ok (gs.map fun g => rD (gR g)) s := fun s => lc_mapL fun g hg => by
    have ad : ∀ s, dAdd s (gpD g) (.tup [.bl false]) = some (rD (gR g)) := fun s => dAdd_tt (by simp)
    simp [le__law_base_0, ad]
  simp [f__law_base, defF_ap, lc]
theorem law_first_ok {s : Sto} (hm : m = 1 ∨ m = 2 ∨ m = 3) : f__law_first [.int m] s = .ok (.tup ((firstF m).map fD)) s := by
  have r1 : (-100000 : Int) ≤ 2 * m ∧ (2 * m : Int) ≤ 100000 := by omega
  have lc : lcL (.nm 1) bYes le__law_first_0 [some (.int m), none] (rngD 0 (2 * (m : Int)).toNat) s = .ok ((List.range (2 * m)).map fun (i : Nat) => fD ((i : Int), (0 : Int))) s := by
    have e : (2 * (m : Int)).toNat = 2 * m := by omega
    rw [e]
    unfold rngD
    exact lc_mapL fun i hi => by simp [le__law_first_0, fD]
  simp [f__law_first, defF_ap, mul2, r1, lc, firstF]
def kindOf : Sp → Str
  | .sh _ _ => "shift"
  | .la _ => "later"
  | .ea _ => "earlier"
  | .lo _ => "longer"
  | .so _ => "shorter"
theorem law_tests_ok {sp : Sp} {s : Sto} (hm : m = 1 ∨ m = 2 ∨ m = 3) : f__law_tests [.str (kindOf sp), .int m] s = .ok (.lst ((cuesOf m sp).map fun (c : Nat) => .int c)) s := by
  rcases hm with rfl | rfl | rfl <;> cases sp <;>
    simp [f__law_tests, defF_ap, kindOf, rng1, rng2, rng3, gSl_lst, c1a, c2a, c3a, c1b, c2b, c3b, dEq_ss, okD_shift, okD_later, okD_earlier, okD_longer, okD_shorter, cuesOf, List.range, List.range.loop]
/-- what is compared -/
def cmpD (F : List Fm) (sp : Sp) (c : Nat) : D := match sp with
  | .la v => .tup [fD ((fAt F (2 * c - 1)).1, (fAt F (2 * c - 1)).2 + v), fD (fAt F (2 * c)), .int (2 * c : Nat), fD ((fAt F (2 * c - 1)).1, (fAt F (2 * c - 1)).2 + v)]
  | .ea v => .tup [fD ((fAt F (2 * c + 1)).1, (fAt F (2 * c + 1)).2 + v), fD (fAt F (2 * c + 2)), .int (2 * c + 1 : Nat), fD ((fAt F (2 * c + 2)).1, (fAt F (2 * c + 2)).2 + -v)]
  | .lo v => .tup [fD ((fAt F (2 * c)).1, (fAt F (2 * c)).2 + v), fD (fAt F (2 * c + 1)), .int (2 * c + 1 : Nat), fD ((fAt F (2 * c)).1, (fAt F (2 * c)).2 + v)]
  | .so v => .tup [fD (fAt F (2 * c + 1)), fD ((fAt F (2 * c)).1, (fAt F (2 * c)).2 + v), .int (2 * c + 1 : Nat), fD ((fAt F (2 * c)).1, (fAt F (2 * c)).2 + v)]
  | .sh _ _ => .non
theorem law_compared_ok {F : List Fm} {sp : Sp} {c : Nat} {s : Sto} (hF : F.length = 2 * m) (hm : m = 1 ∨ m = 2 ∨ m = 3) (hc : c ∈ cuesOf m sp) : f__law_compared [spT sp, .int c, .tup (F.map fD)] s = .ok (cmpD F sp c) s := by
  have tk := testsL_ok (m := m) (s := sp) (t := tstOf sp c) hm (List.mem_map.mpr ⟨c, hc, rfl⟩)
  rw [← hF] at tk
  cases sp with
  | sh _ _ => simp [cuesOf] at hc
  | la v =>
    have h1 : 1 ≤ c := by rcases hm with rfl | rfl | rfl <;> simp [cuesOf, List.range, List.range.loop] at hc <;> omega
    unfold Tst.ok tstOf at tk
    have a1 := atI_F (F := F) (i := 2 * c - 1) tk.1
    have a2 := atI_F (F := F) (i := 2 * c) tk.2.1
    rw [show ((2 * c - 1 : Nat) : Int) = 2 * (c : Int) - 1 by omega] at a1
    rw [show ((2 * c : Nat) : Int) = 2 * (c : Int) by omega] at a2
    simp [f__law_compared, defF_ap, spT, dEq_ss, okD_later, okD_earlier, okD_longer, mul2, a1, a2, law_form_ok, cmpD]
  | ea v =>
    unfold Tst.ok tstOf at tk
    have a1 := atI_F (F := F) (i := 2 * c + 1) tk.1
    have a2 := atI_F (F := F) (i := 2 * c + 2) tk.2.1
    rw [show ((2 * c + 1 : Nat) : Int) = 2 * (c : Int) + 1 by omega] at a1
    rw [show ((2 * c + 2 : Nat) : Int) = 2 * (c : Int) + 2 by omega] at a2
    simp [f__law_compared, defF_ap, spT, dEq_ss, okD_later, okD_earlier, okD_longer, mul2, a1, a2, law_form_ok, cmpD]
  | lo v =>
    unfold Tst.ok tstOf at tk
    have a1 := atI_F (F := F) (i := 2 * c) tk.1
    have a2 := atI_F (F := F) (i := 2 * c + 1) tk.2.1
    rw [show ((2 * c : Nat) : Int) = 2 * (c : Int) by omega] at a1
    rw [show ((2 * c + 1 : Nat) : Int) = 2 * (c : Int) + 1 by omega] at a2
    simp [f__law_compared, defF_ap, spT, dEq_ss, okD_later, okD_earlier, okD_longer, mul2, a1, a2, law_form_ok, cmpD]
  | so v =>
    unfold Tst.ok tstOf at tk
    have a1 := atI_F (F := F) (i := 2 * c + 1) tk.1
    have a2 := atI_F (F := F) (i := 2 * c) tk.2.1
    rw [show ((2 * c + 1 : Nat) : Int) = 2 * (c : Int) + 1 by omega] at a1
    rw [show ((2 * c : Nat) : Int) = 2 * (c : Int) by omega] at a2
    simp [f__law_compared, defF_ap, spT, dEq_ss, okD_later, okD_earlier, okD_longer, okD_shorter, mul2, a1, a2, law_form_ok, cmpD]
theorem gone_core {F : List Fm} {R : List Rw} {x a b : D} {p q nw : Fm} {i : Nat} {late : Bool} {s : Sto} (h : i < F.length) (hF : F.length ≤ 10) (hR : R.length ≤ 1000) (hc : ∀ s, f__law_compared [a, b, .tup (F.map fD)] s = .ok (.tup [fD p, fD q, .int (i : Nat), fD nw]) s) :
    f__law_gone [x, a, b, .tup (F.map fD), .lst (R.map rD), .bl late] s = .ok (.tup [.tup ((if late = true then F.set i nw else F).map fD), .lst ((R ++ [if late = true then (q.1, p.1, q.2 - p.2, true) else (p.1, q.1, p.2 - q.2, false)]).map rD)]) s := by
  have g1 := cutD_pre (l := F.map fD) (k := i) (by simp; omega)
  have g2 := cutD_post (l := F.map fD) (k := i) (by simpa using h)
  have ad : ∀ s, dAdd s (.tup ((F.map fD).take i)) (.tup [fD nw]) = some (.tup ((F.map fD).take i ++ [fD nw])) := fun s => dAdd_tt (by simp; omega)
  have ad2 : ∀ s, dAdd s (.tup ((F.map fD).take i ++ [fD nw])) (.tup ((F.map fD).drop (i + 1))) = some (.tup (((F.map fD).take i ++ [fD nw]) ++ (F.map fD).drop (i + 1))) := fun s => dAdd_tt (by simp; omega)
  have e : ((F.map fD).take i ++ [fD nw]) ++ (F.map fD).drop (i + 1) = (F.set i nw).map fD := by
    rw [List.map_set, List.set_eq_take_append_cons_drop]
    simp [h]
  rw [e] at ad2
  have a2 : ∀ s x, dAdd s (.lst (R.map rD)) (.lst [x]) = some (.lst (R.map rD ++ [x])) := fun s x => dAdd_ll (by simp; omega)
  have gp : ∀ (p : Fm) s, gIx s (fD p) (.int 0) = some (.int p.1) := fun p s => by simp [fD]
  have gq : ∀ (p : Fm) s, gIx s (fD p) (.int 1) = some (.int p.2) := fun p s => by simp [fD]
  cases late
  · simp [f__law_gone, defF_ap, hc, gp, gq, a2, rD]
  · simp [f__law_gone, defF_ap, hc, gp, gq, a2, rD, g1, g2, ad, ad2, -List.append_assoc, -List.map_set]
theorem law_gone_ok {r : RS} {sp : Sp} {c : Nat} {late : Bool} {s : Sto} (hF : r.F.length = 2 * m) (hm : m = 1 ∨ m = 2 ∨ m = 3) (hc : c ∈ cuesOf m sp) (hR : r.R.length ≤ 1000) :
    f__law_gone [.int m, spT sp, .int c, .tup (r.F.map fD), .lst (r.R.map rD), .bl late] s = .ok (.tup [.tup ((goT late r (tstOf sp c)).F.map fD), .lst ((goT late r (tstOf sp c)).R.map rD)]) s := by
  have tk := testsL_ok (m := m) (s := sp) (t := tstOf sp c) hm (List.mem_map.mpr ⟨c, hc, rfl⟩)
  rw [← hF] at tk
  have cp := fun s => law_compared_ok (F := r.F) (sp := sp) (c := c) (s := s) hF hm hc
  have h10 : r.F.length ≤ 10 := by omega
  cases sp with
  | sh _ _ => simp [cuesOf] at hc
  | la v =>
    rw [gone_core (i := 2 * c) tk.2.2.1 h10 hR cp]
    cases late <;> simp [goT, putF, rowOf, oneF, tstOf]
  | ea v =>
    rw [gone_core (i := 2 * c + 1) tk.2.2.1 h10 hR cp]
    cases late <;> simp [goT, putF, rowOf, oneF, tstOf]
  | lo v =>
    rw [gone_core (i := 2 * c + 1) tk.2.2.1 h10 hR cp]
    cases late <;> simp [goT, putF, rowOf, oneF, tstOf]
  | so v =>
    rw [gone_core (i := 2 * c + 1) tk.2.2.1 h10 hR cp]
    have e1 : (fAt r.F (2 * c + 1)).2 + (0 - v) - (fAt r.F (2 * c)).2 = (fAt r.F (2 * c + 1)).2 - ((fAt r.F (2 * c)).2 + v) := by omega
    have e2 : (fAt r.F (2 * c)).2 + v - (fAt r.F (2 * c + 1)).2 = (fAt r.F (2 * c)).2 - ((fAt r.F (2 * c + 1)).2 + (0 - v)) := by omega
    cases late
    · simp [goT, putF, rowOf, oneF, tstOf, rD]; omega
    · simp [goT, putF, rowOf, oneF, tstOf, rD]; omega
end
end G

end
section
namespace G
open PySem PySem.Spec L2
theorem setCel_newCel {s : Sto} {l l' : List D} : setCel (newCel s l) s.cel.length l' = newCel s l' := by
  unfold setCel newCel
  simp
theorem cut_newCel {s : Sto} {l : List D} : cut s.cel.length (newCel s l) = s := by
  unfold cut newCel
  simp
theorem shK_get {c : Nat} {v : Int} : ∀ {j : Nat} {F : List Fm} {i : Nat} {p : Fm}, F[i]? = some p → (shK c v j F)[i]? = some (if 2 * c ≤ j + i then (p.1, p.2 + v) else p)
  | _, [], _, _, h => by simp at h
  | j, q :: F, 0, p, h => by simp at h; subst h; simp [shK]
  | j, q :: F, i + 1, p, h => by
    have := shK_get (c := c) (v := v) (j := j + 1) (F := F) (i := i) (p := p) (by simpa using h)
    simp [shK, this, show j + 1 + i = j + (i + 1) by omega]
theorem pure_fD {l : List Fm} : pureL (l.map fD) = true := pureL_of fun y hy => by
  obtain ⟨p, _, e⟩ := List.mem_map.mp hy
  subst e
  rfl
theorem law_shifted_ok {F : List Fm} {c : Nat} {v : Int} {s : Sto} (hF : F.length ≤ 10) : f__law_shifted [.tup (F.map fD), spT (.sh c v)] s = .ok (.tup ((shF F c v).map fD)) s := by
  have hl : (shF F c v).length = F.length := shK_len
  obtain ⟨env', s3, e3, hI⟩ := for_invN (body := lb__law_shifted_0) (i := 3) (ds := rngD 0 F.length) (k := 0) (env := [some (.tup (F.map fD)), some (spT (.sh c v)), some (.cel s.cel.length), none]) (s := newCel s [])
    (I := fun k env s3 => (∃ x, env = [some (.tup (F.map fD)), some (spT (.sh c v)), some (.cel s.cel.length), x]) ∧ s3 = newCel s (((shF F c v).take k).map fD)) ⟨⟨none, rfl⟩, rfl⟩ fun k d hd env s3 ⟨⟨x, ee⟩, es⟩ => by
      subst ee es
      have hk : k < F.length := by
        have := (List.getElem?_eq_some_iff.mp hd).1
        rwa [rngD_len0] at this
      have ed : d = .int k := by
        unfold rngD at hd
        simp [hk] at hd
        exact hd.symm
      subst ed
      have aF := atI_F (F := F) (i := k) hk
      have ge : (shF F c v)[k]? = some (if 2 * c ≤ 0 + k then ((fAt F k).1, (fAt F k).2 + v) else fAt F k) := shK_get (by simp [fAt, hk, List.getD])
      have tk : (shF F c v).take (k + 1) = (shF F c v).take k ++ [if 2 * c ≤ k then ((fAt F k).1, (fAt F k).2 + v) else fAt F k] := by
        rw [List.take_add_one, ge]
        simp
      have ap : ∀ p : Fm, mAppend (newCel s (((shF F c v).take k).map fD)) (.cel s.cel.length) [fD p] = some (.non, newCel s (((shF F c v).take k).map fD ++ [fD p])) := fun p => by
        rw [append_ok newCel_new rfl (by simp; omega), setCel_newCel]
      refine ⟨[some (.tup (F.map fD)), some (spT (.sh c v)), some (.cel s.cel.length), some (.int k)], newCel s (((shF F c v).take (k + 1)).map fD), .inl ?_, ⟨⟨_, rfl⟩, by rw [Nat.zero_add]⟩⟩
      rw [Nat.zero_add]
      have e1 : ∀ s, gIx s (spT (.sh c v)) (.int 1) = some (.int c) := fun _ => by simp [spT]
      have e2 : ∀ s, gIx s (spT (.sh c v)) (.int 2) = some (.int v) := fun _ => by simp [spT]
      by_cases h2 : 2 * c ≤ k
      · have h2' : (2 : Int) * c ≤ k := by omega
        simp [lb__law_shifted_0, aF, e1, e2, mul2, h2, h2', law_form_ok, ap, tk, -List.map_take]
      · have h2' : ¬ (2 : Int) * c ≤ k := by omega
        simp [lb__law_shifted_0, aF, e1, e2, mul2, h2, h2', law_form_ok, ap, tk, -List.map_take]
  obtain ⟨⟨x, ee⟩, es⟩ := hI
  subst ee es
  rw [rngD_len0, Nat.zero_add, List.take_of_length_le (by omega)] at e3
  have r1 : (-100000 : Int) ≤ F.length ∧ (F.length : Int) ≤ 100000 := by omega
  have gt : gTup (newCel s ((shF F c v).map fD)) [.cel s.cel.length] = some (.tup ((shF F c v).map fD)) := by unfold gTup; simp [newCel_new]
  have fzz : ∀ cs, fz s.cel.length cs (.tup ((shF F c v).map fD)) = .tup ((shF F c v).map fD) := fun cs => fz_pure _ (by simpa [D.pure] using pure_fD)
  unfold f__law_shifted
  rw [defC_ap]
  simp [r1, e3, gt, fzz, cut_newCel]
section
variable {m : Nat} {gs : List Gp} {ss : List Sp} {told : List Bool} {s : Sto}
theorem led_cues {sp : Sp} {x1 x2 x3 : Option D} (hm : m = 1 ∨ m = 2 ∨ m = 3) (ht : told.length ≤ 900) : ∀ {cs : List Nat} {r : RS} {x8 : Option D}, (∀ c ∈ cs, c ∈ cuesOf m sp) → r.F.length = 2 * m → r.w.length + cs.length ≤ told.length → r.R.length + cs.length ≤ 1000 →
    ∃ y8, forL (.nm 8) lb__law_led_0 (cs.map fun (c : Nat) => .int c) [some (.int m), x1, x2, x3, some (.tup (r.F.map fD)), some (.lst (r.R.map rD)), some (.cel s.cel.length), some (spT sp), x8] (newCel s ((told.drop r.w.length).map .bl)) =
      .ok .nx [some (.int m), x1, x2, x3, some (.tup ((goTs told (cs.map (tstOf sp)) r).F.map fD)), some (.lst ((goTs told (cs.map (tstOf sp)) r).R.map rD)), some (.cel s.cel.length), some (spT sp), y8] (newCel s ((told.drop (goTs told (cs.map (tstOf sp)) r).w.length).map .bl))
  | [], r, x8, _, _, _, _ => ⟨x8, rfl⟩
  | c :: cs, r, x8, hc, hF, hw, hR => by
    simp at hw hR
    have hlt : r.w.length < told.length := by omega
    have dr : told.drop r.w.length = told.getD r.w.length false :: told.drop (r.w.length + 1) := by
      rw [List.drop_eq_getElem_cons hlt]
      simp [List.getD, hlt]
    obtain ⟨g1, g2, g3⟩ := goT_len (b := told.getD r.w.length false) (r := r) (t := tstOf sp c)
    obtain ⟨y8, e⟩ := led_cues (sp := sp) (x1 := x1) (x2 := x2) (x3 := x3) hm ht (cs := cs) (r := goT (told.getD r.w.length false) r (tstOf sp c)) (x8 := some (.int c)) (fun z hz => hc z (List.mem_cons_of_mem _ hz)) (by rw [g1]; exact hF) (by omega) (by omega)
    refine ⟨y8, ?_⟩
    have gn := fun s => law_gone_ok (m := m) (r := r) (sp := sp) (c := c) (late := told.getD r.w.length false) (s := s) hF hm (hc c (List.mem_cons_self ..)) (by omega)
    have pp : mPop0 (newCel s ((told.drop r.w.length).map .bl)) (.cel s.cel.length) [.int 0] = some (.bl (told.getD r.w.length false), newCel s ((told.drop (r.w.length + 1)).map .bl)) := by
      unfold mPop0
      rw [dr]
      simp [newCel_new, setCel_newCel]
    rw [List.map_cons, forL_c bind_nm]
    rw [g3] at e
    have body : lb__law_led_0 ([some (.int m), x1, x2, x3, some (.tup (r.F.map fD)), some (.lst (r.R.map rD)), some (.cel s.cel.length), some (spT sp), x8].set 8 (some (.int c))) (newCel s ((told.drop r.w.length).map .bl)) = .ok .nx [some (.int m), x1, x2, x3, some (.tup ((goT (told.getD r.w.length false) r (tstOf sp c)).F.map fD)), some (.lst ((goT (told.getD r.w.length false) r (tstOf sp c)).R.map rD)), some (.cel s.cel.length), some (spT sp), some (.int c)] (newCel s ((told.drop (r.w.length + 1)).map .bl)) := by
      generalize told.getD r.w.length false = b at *
      simp [lb__law_led_0, pp, gn, -List.map_drop]
    rw [body]
    exact e
theorem led_step {sp : Sp} {r : RS} {x1 x2 x3 x8 : Option D} (hm : m = 1 ∨ m = 2 ∨ m = 3) (ht : told.length ≤ 900) (hF : r.F.length = 2 * m) (hw : r.w.length + (testsL m sp).length ≤ told.length) (hR : r.R.length + (testsL m sp).length ≤ 1000) :
    ∃ y8, lb__law_led_1 [some (.int m), x1, x2, x3, some (.tup (r.F.map fD)), some (.lst (r.R.map rD)), some (.cel s.cel.length), some (spT sp), x8] (newCel s ((told.drop r.w.length).map .bl)) =
      .ok .nx [some (.int m), x1, x2, x3, some (.tup ((goTs told (testsL m sp) (shS sp r)).F.map fD)), some (.lst ((goTs told (testsL m sp) (shS sp r)).R.map rD)), some (.cel s.cel.length), some (spT sp), y8] (newCel s ((told.drop (goTs told (testsL m sp) (shS sp r)).w.length).map .bl)) := by
  obtain ⟨k1, k2, k3⟩ := shS_len (s := sp) (r := r)
  have hl : (cuesOf m sp).length = (testsL m sp).length := by simp [testsL]
  obtain ⟨y8, e⟩ := led_cues (s := s) (sp := sp) (told := told) (x1 := x1) (x2 := x2) (x3 := x3) hm ht (cs := cuesOf m sp) (r := shS sp r) (x8 := x8) (fun _ h => h) (by rw [k1]; exact hF) (by rw [k3, hl]; exact hw) (by rw [k2, hl]; exact hR)
  rw [k3] at e
  refine ⟨y8, ?_⟩
  have lt := fun s => law_tests_ok (m := m) (sp := sp) (s := s) hm
  have e0 : ∀ s, gIx s (spT sp) (.int 0) = some (.str (kindOf sp)) := fun _ => by cases sp <;> simp [spT, kindOf]
  have hk : okD (.str (kindOf sp)) = true := by cases sp <;> simp [kindOf, okD_shift, okD_later, okD_earlier, okD_longer, okD_shorter]
  have h10 : r.F.length ≤ 10 := by omega
  by_cases hs : ∃ c v, sp = .sh c v
  · obtain ⟨c, v, rfl⟩ := hs
    have sh := fun s => law_shifted_ok (F := r.F) (c := c) (v := v) (s := s) h10
    have ek : kindOf (.sh c v) = "shift" := rfl
    rw [ek] at lt e0 hk
    have eF : (shS (.sh c v) r).F = shF r.F c v := rfl
    rw [eF, k2] at e
    simp [lb__law_led_1, e0, dEq_ss hk okD_shift, sh, lt, -List.map_drop]
    exact e
  · have es : shS sp r = r := by cases sp <;> first | rfl | exact absurd ⟨_, _, rfl⟩ hs
    have ne : (kindOf sp == ("shift" : Str)) = false := by
      cases sp <;> first | exact absurd ⟨_, _, rfl⟩ hs | simp [kindOf]
    rw [es] at e ⊢
    simp [lb__law_led_1, e0, dEq_ss hk okD_shift, ne, lt, -List.map_drop]
    exact e
theorem led_steps {x1 x2 x3 : Option D} (hm : m = 1 ∨ m = 2 ∨ m = 3) (ht : told.length ≤ 900) : ∀ {ss : List Sp} {r : RS} {x7 x8 : Option D}, r.F.length = 2 * m → r.w.length + manyT m ss ≤ told.length → r.R.length + manyT m ss ≤ 1000 →
    ∃ y7 y8, forL (.nm 7) lb__law_led_1 (ss.map spT) [some (.int m), x1, x2, x3, some (.tup (r.F.map fD)), some (.lst (r.R.map rD)), some (.cel s.cel.length), x7, x8] (newCel s ((told.drop r.w.length).map .bl)) =
      .ok .nx [some (.int m), x1, x2, x3, some (.tup ((goS m told ss r).F.map fD)), some (.lst ((goS m told ss r).R.map rD)), some (.cel s.cel.length), y7, y8] (newCel s ((told.drop (goS m told ss r).w.length).map .bl))
  | [], r, x7, x8, _, _, _ => ⟨x7, x8, rfl⟩
  | sp :: ss, r, x7, x8, hF, hw, hR => by
    simp [manyT] at hw hR
    obtain ⟨y8, e⟩ := led_step (s := s) (told := told) (sp := sp) (r := r) (x1 := x1) (x2 := x2) (x3 := x3) (x8 := x8) hm ht hF (by omega) (by omega)
    obtain ⟨g1, g2, g3⟩ := goTs_len (told := told) (ts := testsL m sp) (r := shS sp r)
    obtain ⟨k1, k2, k3⟩ := shS_len (s := sp) (r := r)
    rw [k2] at g2
    rw [k3] at g3
    rw [k1] at g1
    obtain ⟨z7, z8, e2⟩ := led_steps (x1 := x1) (x2 := x2) (x3 := x3) hm ht (ss := ss) (r := goTs told (testsL m sp) (shS sp r)) (x7 := some (spT sp)) (x8 := y8) (by rw [g1]; exact hF) (by unfold manyT; omega) (by unfold manyT; omega)
    refine ⟨z7, z8, ?_⟩
    rw [List.map_cons, forL_c bind_nm]
    show forK (lb__law_led_1 [some (.int m), x1, x2, x3, some (.tup (r.F.map fD)), some (.lst (r.R.map rD)), some (.cel s.cel.length), some (spT sp), x8] _) _ = _
    rw [e]
    exact e2
theorem pure_bl {l : List Bool} : pureL (l.map .bl) = true := pureL_of fun y hy => by
  obtain ⟨p, _, e⟩ := List.mem_map.mp hy
  subst e
  rfl
theorem pure_rD {l : List Rw} : pureL (l.map rD) = true := pureL_of fun y hy => by
  obtain ⟨p, _, e⟩ := List.mem_map.mp hy
  subst e
  rfl
theorem law_led_ok (C : Case m gs ss) (hw : told.length = manyT m ss) : f__law_led [.int m, .tup (gs.map gpD), scrD ss, .tup (told.map .bl)] s = .ok (.tup [.tup ((resS m gs ss told).F.map fD), .lst ((resS m gs ss told).R.map rD)]) s := by
  have h15 := manyT_le C.hm (ss := ss)
  have hl := C.hl
  have hg := C.hg
  obtain ⟨y7, y8, e⟩ := led_steps (s := s) (told := told) (x1 := some (.tup (gs.map gpD))) (x2 := some (scrD ss)) (x3 := some (.tup (told.map .bl))) C.hm (by omega) (ss := ss) (r := ⟨firstF m, gs.map gR, []⟩) (x7 := none) (x8 := none) firstF_len (by simp; omega) (by simp; omega)
  have e' : forL (.nm 7) lb__law_led_1 (ss.map spT) [some (.int m), some (.tup (gs.map gpD)), some (scrD ss), some (.tup (told.map .bl)), some (.tup ((firstF m).map fD)), some (.lst ((gs.map gR).map rD)), some (.cel s.cel.length), none, none] (newCel s (told.map .bl)) = _ := e
  have lb := fun s => law_base_ok (gs := gs) (s := s)
  simp only [List.map_map] at lb e'
  have e1 : seqOf (scrD ss) = some (ss.map spT) := rfl
  have fzz : ∀ cs, fz s.cel.length cs (.tup [.tup ((resS m gs ss told).F.map fD), .lst ((resS m gs ss told).R.map rD)]) = .tup [.tup ((resS m gs ss told).F.map fD), .lst ((resS m gs ss told).R.map rD)] := fun cs => fz_pure _ (by
    have a1 := pure_fD (l := (resS m gs ss told).F)
    have a2 := pure_rD (l := (resS m gs ss told).R)
    simp [D.pure, pureL, a1, a2])
  unfold resS at fzz ⊢
  unfold f__law_led
  rw [defC_ap]
  simp [law_first_ok C.hm, lb, pure_bl, e', e1, cut_newCel, -List.map_drop]
  simpa using fzz _
end
end G

end
section
namespace G
open PySem PySem.Spec L2
theorem for_out {body : SM} {i : Nat} {I : Nat → Env → Sto → Prop} {P : D → Sto → Prop} : ∀ {ds : List D} {k : Nat} {env : Env} {s : Sto}, I k env s → (∀ j d, ds[j]? = some d → ∀ env s, I (k + j) env s → (∃ env' s', body (env.set i (some d)) s = .ok .nx env' s' ∧ I (k + j + 1) env' s') ∨ (∃ d' env' s', body (env.set i (some d)) s = .ok (.rt d') env' s' ∧ P d' s')) →
    (∃ env' s', forL (.nm i) body ds env s = .ok .nx env' s' ∧ I (k + ds.length) env' s') ∨ (∃ d' env' s', forL (.nm i) body ds env s = .ok (.rt d') env' s' ∧ P d' s')
  | [], k, env, s, hI, _ => .inl ⟨env, s, rfl, hI⟩
  | d :: ds, k, env, s, hI, h => by
    rw [forL_c bind_nm]
    rcases h 0 d rfl env s hI with ⟨env1, s1, e1, i1⟩ | ⟨d', env1, s1, e1, p1⟩
    · rw [e1, forK_nx]
      have := for_out (ds := ds) (k := k + 1) (P := P) i1 fun j z hz env s hi => by
        have := h (j + 1) z hz env s (by rw [show k + (j + 1) = k + 1 + j by omega]; exact hi)
        rw [show k + 1 + j + 1 = k + (j + 1) + 1 by omega]
        exact this
      rw [show k + (d :: ds).length = k + 1 + ds.length by simp; omega]
      exact this
    · rw [e1, forK_rt]
      exact .inr ⟨d', env1, s1, rfl, p1⟩
theorem bools_of {ys : List D} (h : ∀ y ∈ ys, ∃ b : Bool, y = .bl b) : ∃ bs : List Bool, ys = bs.map .bl := by
  induction ys with
  | nil => exact ⟨[], rfl⟩
  | cons y ys ih =>
    obtain ⟨b, e⟩ := h y (List.mem_cons_self ..)
    obtain ⟨bs, e2⟩ := ih fun z hz => h z (List.mem_cons_of_mem _ hz)
    exact ⟨b :: bs, by rw [e, e2]; rfl⟩
section
variable {m : Nat} {gs : List Gp} {ss : List Sp} {told : List Bool} {s : Sto}
theorem drawn_steps {n : Nat} {x2 : Option D} (hm : m = 1 ∨ m = 2 ∨ m = 3) : ∀ {ss : List Sp} {acc : List Bool} {s : Sto} {x4 x5 : Option D}, Jar n s → acc.length + manyT m ss ≤ 900 →
    ∃ told y4 y5 s', forL (.nm 4) lb__law_drawn_word_0 (ss.map spT) [some (.cel n), some (.int m), x2, some (.tup (acc.map .bl)), x4, x5] s = .ok .nx [some (.cel n), some (.int m), x2, some (.tup ((acc ++ told).map .bl)), y4, y5] s' ∧ told.length = manyT m ss ∧ Jr n s s'
  | [], acc, s, x4, x5, hj, _ => ⟨[], x4, x5, s, by simp, rfl, Jr.refl hj⟩
  | sp :: ss, acc, s, x4, x5, hj, hl => by
    simp [manyT] at hl
    have e0 : ∀ s, gIx s (spT sp) (.int 0) = some (.str (kindOf sp)) := fun _ => by cases sp <;> simp [spT, kindOf]
    have lt := fun s => law_tests_ok (m := m) (sp := sp) (s := s) hm
    obtain ⟨ys, s1, e1, j1, l1, p1⟩ := lc_inv (f := le__law_drawn_word_0) (i := 5) (env := [some (.cel n), some (.int m), x2, some (.tup (acc.map .bl)), some (spT sp), none]) (I := fun s1 => Jr n s s1) (P := fun y => ∃ b : Bool, y = .bl b) (ds := (cuesOf m sp).map fun (c : Nat) => .int c) (Jr.refl hj) fun d hd s1 j1 => by
      obtain ⟨r, s2, e2, r0, r1, j2⟩ := dip_ok (w := 2) j1.jar (by omega) (by omega)
      exact ⟨.bl (r == 1), s2, by simp [le__law_drawn_word_0, e2, dEq_ii], j1.trans j2, _, rfl⟩
    obtain ⟨bs, rfl⟩ := bools_of p1
    have hbl : bs.length = (testsL m sp).length := by simpa [testsL] using l1
    have ad : ∀ s, dAdd s (.tup (acc.map .bl)) (.tup (bs.map .bl)) = some (.tup (acc.map .bl ++ bs.map .bl)) := fun s => dAdd_tt (by simp; omega)
    obtain ⟨told, y4, y5, s', e, hl2, j2⟩ := drawn_steps (x2 := x2) hm (ss := ss) (acc := acc ++ bs) (s := s1) (x4 := some (spT sp)) (x5 := x5) j1.jar (by rw [List.length_append]; unfold manyT; omega)
    refine ⟨bs ++ told, y4, y5, s', ?_, by rw [List.length_append, hl2, hbl]; simp [manyT], j1.trans j2⟩
    rw [List.map_cons, forL_c bind_nm]
    have body : lb__law_drawn_word_0 ([some (.cel n), some (.int m), x2, some (.tup (acc.map .bl)), x4, x5].set 4 (some (spT sp))) s = .ok .nx [some (.cel n), some (.int m), x2, some (.tup ((acc ++ bs).map .bl)), some (spT sp), x5] s1 := by
      simp [lb__law_drawn_word_0, e0, lt, e1, ad]
    rw [body, forK_nx, e]
    simp
theorem drawn_word_ok {n : Nat} {s : Sto} (hj : Jar n s) (hm : m = 1 ∨ m = 2 ∨ m = 3) (hl : ss.length ≤ 5) : ∃ told : List Bool, ∃ s', f__law_drawn_word [.cel n, .int m, scrD ss] s = .ok (.tup (told.map .bl)) s' ∧ told.length = manyT m ss ∧ Jr n s s' := by
  have h15 := manyT_le hm (ss := ss)
  obtain ⟨told, y4, y5, s', e, h1, h2⟩ := drawn_steps (x2 := some (scrD ss)) hm (ss := ss) (acc := []) (s := s) (x4 := none) (x5 := none) hj (by simp; omega)
  refine ⟨told, s', ?_, h1, h2⟩
  have e1 : seqOf (scrD ss) = some (ss.map spT) := rfl
  simp at e
  simp [f__law_drawn_word, defF_ap, e1, e]
/-! rings -/
def rAt (R : List Rw) (i : Nat) : Rw := R.getD i (0, 0, 0, false)
theorem atI_R {R : List Rw} {i : Nat} (h : i < R.length) : atI (R.map rD) (i : Int) = some (rD (rAt R i)) := by
  rw [atI_nat (by omega) (by simpa using h)]
  simp [rAt, h, List.getD]
@[simp] theorem rD_0 {r : Rw} {s : Sto} : gIx s (rD r) (.int 0) = some (.int r.1) := by simp [rD]
@[simp] theorem rD_1 {r : Rw} {s : Sto} : gIx s (rD r) (.int 1) = some (.int r.2.1) := by simp [rD]
@[simp] theorem rD_2 {r : Rw} {s : Sto} : gIx s (rD r) (.int 2) = some (.int r.2.2.1) := by simp [rD]
@[simp] theorem rD_3 {r : Rw} {s : Sto} : gIx s (rD r) (.int 3) = some (.bl r.2.2.2) := by simp [rD]
theorem atI_last {α : Type} {l : List α} {a : α} : atI (l ++ [a]) (-1) = some a := by
  unfold atI ixN
  simp
  have : (-1 + ((l.length : Int) + 1)).toNat = l.length := by omega
  rw [if_pos (by omega), this]
  simp
def natD (l : List Nat) : List D := l.map fun (i : Nat) => .int i
/-- a drawn ring -/
structure Ring (L : Nat) (v : List Nat) : Prop where
  ne : v ≠ []
  len : v.length ≤ 8
  lt : ∀ i ∈ v, i < L
theorem pure_nat {l : List Nat} : pureL (natD l) = true := pureL_of fun y hy => by
  obtain ⟨p, _, e⟩ := List.mem_map.mp hy
  subst e
  rfl
theorem drawn_ring_ok {n : Nat} {s : Sto} {R : List Rw} (hj : Jar n s) (h0 : R ≠ []) (hR : R.length ≤ 60) : ∃ v s', f__law_drawn_ring [.cel n, .lst (R.map rD)] s = .ok (.tup (natD v)) s' ∧ Ring R.length v ∧ Jr n s s' := by
  have hp : 0 < R.length := List.length_pos_iff.mpr h0
  have hn := hj.lt
  obtain ⟨a, s1, e1, a0, a1, j1⟩ := dip_ok (w := (R.length : Int)) hj (by omega) (by omega)
  obtain ⟨i, rfl⟩ := Int.eq_ofNat_of_zero_le a0
  obtain ⟨t, s2, e2, t0, t1, j2⟩ := dip_ok (w := 7) (j1.jar.new (l := [.int i])) (by decide) (by decide)
  have hlen1 := j1.len
  have c2 : s2.cel[s1.cel.length]? = some [.int i] := j2.cel (by omega) newCel_new
  have base2 : ∀ k, k < s1.cel.length → k ≠ n → s2.cel[k]? = s.cel[k]? := fun k h1 h2 => by rw [j2.oth k h2, newCel_old h1, j1.oth k h2]
  have fzz : ∀ v cs, fz s.cel.length cs (.tup (natD v)) = .tup (natD v) := fun v cs => fz_pure _ (by simpa [D.pure] using pure_nat)
  have out := for_out (body := lb__law_drawn_ring_0) (i := 3) (ds := rngD 0 t.toNat) (k := 0) (env := [some (.cel n), some (.lst (R.map rD)), some (.cel s1.cel.length), none, none, none]) (s := s2)
    (I := fun k env s3 => (∃ x3 x4 x5, env = [some (.cel n), some (.lst (R.map rD)), some (.cel s1.cel.length), x3, x4, x5]) ∧ ∃ v, Ring R.length v ∧ v.length ≤ k + 1 ∧ s3.cel[s1.cel.length]? = some (natD v) ∧ Jar n s3 ∧ s3.cel.length = s1.cel.length + 1 ∧ (∀ k, k < s1.cel.length → k ≠ n → s3.cel[k]? = s.cel[k]?) ∧ s3.obj = s.obj)
    (P := fun d s3 => ∃ v, d = .tup (natD v) ∧ Ring R.length v ∧ Jar n s3 ∧ s3.cel.length = s1.cel.length + 1 ∧ (∀ k, k < s1.cel.length → k ≠ n → s3.cel[k]? = s.cel[k]?) ∧ s3.obj = s.obj)
    ⟨⟨_, _, _, rfl⟩, [i], ⟨by simp, by simp, fun k hk => by simp at hk; omega⟩, by simp, c2, j2.jar, by rw [j2.len, newCel_len], base2, by rw [j2.obj]; exact j1.obj⟩
    fun k d hd env s3 ⟨⟨x3, x4, x5, ee⟩, v, rv, hv, hc, hj3, hl3, ho3, hb3⟩ => by
      subst ee
      have hk : k < 7 := by
        have := (List.getElem?_eq_some_iff.mp hd).1
        rw [rngD_len0] at this
        omega
      obtain ⟨u, z, ev⟩ : ∃ u z, v = u ++ [z] := ⟨v.dropLast, v.getLast rv.ne, (List.dropLast_concat_getLast rv.ne).symm⟩
      obtain ⟨hd0, tl, ev2⟩ : ∃ a b, v = a :: b := by
        cases v with
        | nil => exact absurd rfl rv.ne
        | cons a b => exact ⟨a, b, rfl⟩
      have hz : z < R.length := rv.lt z (by rw [ev]; simp)
      have hh : hd0 < R.length := rv.lt hd0 (by rw [ev2]; simp)
      have gl : gIx s3 (.cel s1.cel.length) (.int (-1)) = some (.int z) := by
        rw [gIx_cel hc, ev]
        unfold natD
        rw [List.map_append]
        exact atI_last
      have gf : gIx s3 (.cel s1.cel.length) (.int 0) = some (.int hd0) := by
        rw [gIx_cel hc, ev2]
        simp [natD]
      have rz := atI_R (R := R) (i := z) hz
      have rh := atI_R (R := R) (i := hd0) hh
      have gt : gTup s3 [.cel s1.cel.length] = some (.tup (natD v)) := by unfold gTup; simp [hc]
      by_cases heq : (rAt R z).2.1 = (rAt R hd0).1
      · refine .inr ⟨.tup (natD v), [some (.cel n), some (.lst (R.map rD)), some (.cel s1.cel.length), some d, x4, x5], s3, ?_, v, rfl, rv, hj3, hl3, ho3, hb3⟩
        simp [lb__law_drawn_ring_0, gl, gf, rz, rh, dEq_ii, heq, gt]
      · have lcf : lcL (.nm 5) lt__law_drawn_ring_0 (eVar 5) [some (.cel n), some (.lst (R.map rD)), some (.cel s1.cel.length), some d, x4, none] (rngD 0 R.length) s3 = .ok ((rngD 0 R.length).filter fun d => match d with
            | .int i => (rAt R i.toNat).1 == (rAt R z).2.1
            | _ => false) s3 := lc_filter (fun d => by simp) fun d hd => by
          obtain ⟨j, hj', ed⟩ := rngD_0 hd
          subst ed
          have rj := atI_R (R := R) (i := j) hj'
          simp [lt__law_drawn_ring_0, rj, gl, rz, dEq_ii]
        generalize hl : ((rngD 0 R.length).filter fun d => match d with
            | .int i => (rAt R i.toNat).1 == (rAt R z).2.1
            | _ => false) = l at lcf
        have hmem : ∀ y ∈ l, ∃ j : Nat, j < R.length ∧ y = .int j := fun y hy => by
          rw [← hl] at hy
          exact rngD_0 (List.mem_filter.mp hy).1
        have hll : l.length ≤ R.length := by
          rw [← hl]
          exact Nat.le_trans (List.length_filter_le ..) (by rw [rngD_len0]; exact Nat.le_refl _)
        have okl : okD (.lst l) = true := okT.ok (n := 50) (okT_lstI (n := 49) (fun y hy => by
          obtain ⟨j, _, e⟩ := hmem y hy
          rw [e]; exact okT_int) (by omega)) (by omega)
        have r1 : (-100000 : Int) ≤ R.length ∧ (R.length : Int) ≤ 100000 := by omega
        by_cases hle : l = []
        · subst hle
          refine .inr ⟨.tup (natD v), [some (.cel n), some (.lst (R.map rD)), some (.cel s1.cel.length), some d, some (.lst []), x5], s3, ?_, v, rfl, rv, hj3, hl3, ho3, hb3⟩
          simp [lb__law_drawn_ring_0, gl, gf, rz, rh, dEq_ii, heq, gt, r1, lcf, dEq]
        · obtain ⟨y, s4, e4, hy, j4⟩ := any_ok (l := l) hj3 hle (by omega)
          obtain ⟨j, hjl, ey⟩ := hmem y hy
          subst ey
          have c4 : s4.cel[s1.cel.length]? = some (natD v) := j4.cel (by omega) hc
          have ap := append_ok (d := .int (j : Int)) c4 rfl (by simp [natD]; omega)
          have enat : natD v ++ [.int (j : Int)] = natD (v ++ [j]) := by simp [natD]
          rw [enat] at ap
          have nel : deqL l [] = false := by cases l with
            | nil => exact absurd rfl hle
            | cons => simp
          refine .inl ⟨[some (.cel n), some (.lst (R.map rD)), some (.cel s1.cel.length), some d, some (.lst l), x5], setCel s4 s1.cel.length (natD (v ++ [j])), ?_, ⟨_, _, _, rfl⟩, v ++ [j], ⟨by simp, by simp; omega, fun i hi => ?_⟩, by simp; omega, setCel_at c4, j4.jar.setO (by omega), by rw [setCel_len, j4.len, hl3], fun k h1 h2 => by rw [setCel_ne (by omega), j4.oth k h2, ho3 k h1 h2], by show (setCel s4 _ _).obj = s.obj; exact j4.obj.trans hb3⟩
          · simp [lb__law_drawn_ring_0, gl, gf, rz, rh, dEq_ii, heq, gt, r1, lcf, dEq, okl, nel, e4, ap]
          · rcases List.mem_append.mp hi with q | q
            · exact rv.lt i q
            · simp at q; subst q; exact hjl
  have r2 : (-100000 : Int) ≤ t ∧ t ≤ 100000 := by omega
  have hcut : ∀ s3 : Sto, Jar n s3 → s3.cel.length = s1.cel.length + 1 → (∀ k, k < s1.cel.length → k ≠ n → s3.cel[k]? = s.cel[k]?) → s3.obj = s.obj → Jr n s (cut s.cel.length s3) := fun s3 h1 h2 h3 h4 => Jr.cut hn h1 (by omega) (fun k hk hk2 => h3 k (by omega) hk2) h4
  rcases out with ⟨env', s3, e3, ⟨x3, x4, x5, ee⟩, v, rv, _, hc, h1, h2, h3, h4⟩ | ⟨d', env', s3, e3, v, ed, rv, h1, h2, h3, h4⟩
  · subst ee
    have gt : gTup s3 [.cel s1.cel.length] = some (.tup (natD v)) := by unfold gTup; simp [hc]
    refine ⟨v, cut s.cel.length s3, ?_, rv, hcut s3 h1 h2 h3 h4⟩
    unfold f__law_drawn_ring
    rw [defC_ap]
    have hp1 : pureL [D.int (i : Int)] = true := rfl
    simp [e1, hp1, e2, r2, e3, gt, fzz]
  · subst ed
    refine ⟨v, cut s.cel.length s3, ?_, rv, hcut s3 h1 h2 h3 h4⟩
    unfold f__law_drawn_ring
    rw [defC_ap]
    have hp1 : pureL [D.int (i : Int)] = true := rfl
    simp [e1, hp1, e2, r2, e3, fzz]
end
end G

end
section
namespace G
open PySem PySem.Spec L2
theorem lc_mapP {α : Type} {p : Pat} {f : E} {h g : α → D} {env : Env} {s : Sto} : ∀ {l : List α}, (∀ x ∈ l, ∃ env1, p.bind (h x) env = some env1 ∧ f env1 s = .ok (g x) s) → lcL p bYes f env (l.map h) s = .ok (l.map g) s
  | [], _ => rfl
  | x :: l, hh => by
    obtain ⟨env1, h1, h2⟩ := hh x (List.mem_cons_self ..)
    exact lcL_p h1 h2 (lc_mapP fun z hz => hh z (List.mem_cons_of_mem _ hz))
theorem for_allP {α : Type} {p : Pat} {body : SM} {h : α → D} {g : α → Bool} {out : D} {I : Env → Prop} {s : Sto} : ∀ {l : List α} {env : Env}, I env → (∀ x ∈ l, ∀ env, I env → ∃ env1 env', p.bind (h x) env = some env1 ∧ body env1 s = (if g x = true then .ok .nx env' s else .ok (.rt out) env' s) ∧ I env') → ∃ env', forL p body (l.map h) env s = (if l.all g = true then .ok .nx env' s else .ok (.rt out) env' s) ∧ I env'
  | [], env, hI, _ => ⟨env, rfl, hI⟩
  | x :: l, env, hI, hh => by
    obtain ⟨env1, env2, h1, h2, i2⟩ := hh x (List.mem_cons_self ..) env hI
    rw [List.map_cons]
    cases e : g x
    · refine ⟨env2, ?_, i2⟩
      rw [forL_c h1, h2, e]
      simp [e]
    · obtain ⟨env3, h3, i3⟩ := for_allP (l := l) i2 fun z hz => hh z (List.mem_cons_of_mem _ hz)
      refine ⟨env3, ?_, i3⟩
      rw [forL_c h1, h2, e]
      simp [e, h3]
def prs (v : List Nat) : List (Nat × Nat) := v.zip (v.drop 1 ++ v.take 1)
def prD (p : Nat × Nat) : D := .tup [.int p.1, .int p.2]
theorem zipD_nat : ∀ {v w : List Nat}, zipD (natD v) (natD w) = (v.zip w).map prD
  | [], w => by cases w <;> rfl
  | _ :: _, [] => rfl
  | a :: v, b :: w => by
    have := zipD_nat (v := v) (w := w)
    simp only [natD, List.map_cons, zipD, List.zip_cons_cons] at this ⊢
    rw [this]
    rfl
def stepOk (R : List Rw) (p : Nat × Nat) : Bool := (rAt R p.1).2.1 == (rAt R p.2).1
def roundOk (R : List Rw) (v : List Nat) : Bool := (prs v).all (stepOk R)
def totalR (R : List Rw) (v : List Nat) : Int := (v.map fun i => (rAt R i).2.2.1).sum
def strictR (R : List Rw) (v : List Nat) : Bool := v.any fun i => (rAt R i).2.2.2
def ansR (R : List Rw) (v : List Nat) : Bool := decide (0 < totalR R v) || ((totalR R v == 0) && strictR R v)
theorem gZip_t {a b : List D} : gZip [.tup a, .tup b] = some (zipD a b) := rfl
theorem natD_len {v : List Nat} : (natD v).length = v.length := by simp [natD]
theorem ring_cut {L : Nat} {v : List Nat} (h : Ring L v) : cutD (natD v) (some 1) none = natD (v.drop 1) ∧ cutD (natD v) none (some 1) = natD (v.take 1) ∧ ∀ s, dAdd s (.tup (natD (v.drop 1))) (.tup (natD (v.take 1))) = some (.tup (natD (v.drop 1 ++ v.take 1))) := by
  have hp : 0 < v.length := List.length_pos_iff.mpr h.ne
  have hl := h.len
  refine ⟨?_, ?_, fun s => ?_⟩
  · have := cutD_post (l := natD v) (k := 0) (by rw [natD_len]; exact hp)
    simpa [natD, List.map_drop] using this
  · have := cutD_pre (l := natD v) (k := 1) (by rw [natD_len]; exact hp)
    simpa [natD, List.map_take] using this
  · rw [dAdd_tt (by rw [natD_len, natD_len, List.length_drop, List.length_take]; omega)]
    simp [natD]
theorem prs_mem {L : Nat} {v : List Nat} (h : Ring L v) {p : Nat × Nat} (hp : p ∈ prs v) : p.1 < L ∧ p.2 < L := by
  have h1 := List.of_mem_zip hp
  refine ⟨h.lt _ h1.1, ?_⟩
  rcases List.mem_append.mp h1.2 with q | q
  · exact h.lt _ (List.mem_of_mem_drop q)
  · exact h.lt _ (List.mem_of_mem_take q)
section
variable {R : List Rw} {v : List Nat} {s : Sto}
theorem is_round_ok (h : Ring R.length v) (hR : R.length ≤ 60) : f_is_round [.lst (R.map rD), .tup (natD v)] s = .ok (.bl (roundOk R v)) s := by
  have hp : 0 < v.length := List.length_pos_iff.mpr h.ne
  have hl := h.len
  obtain ⟨c1, c2, c3⟩ := ring_cut h
  have l1 : (1 : Int) ≤ v.length := by omega
  have l2 : (v.length : Int) ≤ 50 := by omega
  have lc1 : lcL (.nm 2) bYes le_is_round_1 [some (.lst (R.map rD)), some (.tup (natD v)), none, none, none] (natD v) s = .ok (v.map fun _ => .bl true) s := lc_mapL fun i hi => by
    have hlt := h.lt i hi
    have fr := fun s => is_from_ok (s := s) (d := .int (i : Int)) (lo := 0) (hi := (R.length : Int) - 1) ⟨_, rfl⟩
    have : isFrom (.int (i : Int)) 0 ((R.length : Int) - 1) = true := by
      have a : (i : Int) ≤ (R.length : Int) - 1 := by omega
      simp [isFrom, a]
    simp [le_is_round_1, fr, this]
  have al : ∀ s, gAll s [.lst (v.map fun _ => .bl true)] = some (.bl true) := fun s => by
    have := gAll_map (s := s) (g := fun _ => true) (l := natD v)
    simp only [natD, List.map_map] at this
    exact this.trans (by simp)
  have lc2 : lcL (.tp [.nm 3, .nm 4]) bYes le_is_round_0 [some (.lst (R.map rD)), some (.tup (natD v)), none, none, none] ((prs v).map prD) s = .ok ((prs v).map fun p => .bl (stepOk R p)) s := lc_mapP fun p hp => by
    obtain ⟨h1, h2⟩ := prs_mem h hp
    have a1 := atI_R (R := R) h1
    have a2 := atI_R (R := R) h2
    exact ⟨_, bind_tp2, by simp [le_is_round_0, a1, a2, dEq_ii, stepOk]⟩
  have al2 : ∀ s, gAll s [.lst ((prs v).map fun p => .bl (stepOk R p))] = some (.bl ((prs v).all (stepOk R))) := fun s => by
    unfold gAll
    simp only [asBools_map, Option.map_some, List.all_map]
    rfl
  have z : zipD (natD v) (natD (v.drop 1 ++ v.take 1)) = (prs v).map prD := zipD_nat
  simp [f_is_round, defF_ap, tyN, isiB, natD_len, l1, l2, lc1, al, c1, c2, c3, gZip_t, z, lc2, al2, roundOk, -List.drop_one]
theorem due_ok (h : Ring R.length v) (hR : R.length ≤ 60) : f__law_due [.lst (R.map rD), .tup (natD v)] s = .ok (if roundOk R v = true then .bl (ansR R v) else .non) s := by
  have hl := h.len
  obtain ⟨c1, c2, c3⟩ := ring_cut h
  have z : zipD (natD v) (natD (v.drop 1 ++ v.take 1)) = (prs v).map prD := zipD_nat
  obtain ⟨env', e1, x2, x3, ee⟩ := for_allP (p := .tp [.nm 2, .nm 3]) (body := lb__law_due_0) (h := prD) (g := stepOk R) (out := .non) (I := fun env => ∃ x2 x3, env = [some (.lst (R.map rD)), some (.tup (natD v)), x2, x3, none, none]) (s := s) (l := prs v) (env := [some (.lst (R.map rD)), some (.tup (natD v)), none, none, none, none]) ⟨_, _, rfl⟩ fun p hp env ⟨x2, x3, ee⟩ => by
    subst ee
    obtain ⟨h1, h2⟩ := prs_mem h hp
    have a1 := atI_R (R := R) h1
    have a2 := atI_R (R := R) h2
    refine ⟨_, [some (.lst (R.map rD)), some (.tup (natD v)), some (.int p.1), some (.int p.2), none, none], bind_tp2, ?_, _, _, rfl⟩
    by_cases q : (rAt R p.1).2.1 = (rAt R p.2).1 <;> simp [lb__law_due_0, a1, a2, dNe, stepOk, q]
  subst ee
  have lc1 : lcL (.nm 5) bYes le__law_due_1 [some (.lst (R.map rD)), some (.tup (natD v)), x2, x3, none, none] (natD v) s = .ok ((v.map fun i => (rAt R i).2.2.1).map .int) s := by
    rw [List.map_map]
    exact lc_mapL fun i hi => by
      have a1 := atI_R (R := R) (h.lt i hi)
      simp [le__law_due_1, a1]
  have lc2 : ∀ t : Int, lcL (.nm 5) bYes le__law_due_0 [some (.lst (R.map rD)), some (.tup (natD v)), x2, x3, some (.int t), none] (natD v) s = .ok (v.map fun i => .bl (rAt R i).2.2.2) s := fun t => lc_mapL fun i hi => by
    have a1 := atI_R (R := R) (h.lt i hi)
    simp [le__law_due_0, a1]
  have okl : okD (.lst (v.map fun i => .bl (rAt R i).2.2.2)) = true := okT.ok (n := 50) (okT_lstI (n := 49) (fun y hy => by
    obtain ⟨j, _, e⟩ := List.mem_map.mp hy
    rw [← e]; exact okT_bl) (by simp; omega)) (by omega)
  have din : ∀ s, dIn s (.bl true) (.lst (v.map fun i => .bl (rAt R i).2.2.2)) = some (.bl (strictR R v)) := fun s => by
    unfold dIn dInB
    simp only [deref_lst, okl, okD_bl, Bool.and_self, if_true, Option.map_some, List.any_map]
    have : (v.any ((fun z => deq z (.bl true)) ∘ fun i => D.bl (rAt R i).2.2.2)) = v.any fun i => (rAt R i).2.2.2 := by
      congr 1
      funext i
      simp [Function.comp]
    rw [this]
    rfl
  cases e : roundOk R v
  · unfold roundOk at e
    rw [e] at e1
    simp [f__law_due, defF_ap, c1, c2, c3, gZip_t, z, e1, -List.drop_one]
  · unfold roundOk at e
    rw [e] at e1
    have gs : ∀ s, gSum s [.lst ((v.map fun i => (rAt R i).2.2.1).map .int)] = some (.int (totalR R v)) := fun s => gSum_map
    simp only [List.map_map] at lc1 gs
    by_cases t1 : 0 < totalR R v
    · simp [f__law_due, defF_ap, c1, c2, c3, gZip_t, z, e1, lc1, gs, t1, ansR, -List.drop_one]
    · by_cases t0 : totalR R v = 0
      · simp [f__law_due, defF_ap, c1, c2, c3, gZip_t, z, e1, lc1, gs, t0, ansR, dEq_ii, lc2, din, -List.drop_one]
      · simp [f__law_due, defF_ap, c1, c2, c3, gZip_t, z, e1, lc1, gs, t1, t0, ansR, dEq_ii, -List.drop_one]
end
end G

end
section
namespace G
open PySem PySem.Spec L2
theorem goS_len {m : Nat} {told : List Bool} : ∀ {ss : List Sp} {r : RS}, (goS m told ss r).R.length = r.R.length + manyT m ss
  | [], r => by simp [goS, manyT]
  | sp :: ss, r => by
    obtain ⟨g1, g2, g3⟩ := goTs_len (told := told) (ts := testsL m sp) (r := shS sp r)
    obtain ⟨k1, k2, k3⟩ := shS_len (s := sp) (r := r)
    rw [k2] at g2
    have := goS_len (m := m) (told := told) (ss := ss) (r := goTs told (testsL m sp) (shS sp r))
    unfold goS
    rw [this, g2]
    simp [manyT]
    omega
section
variable {m : Nat} {gs : List Gp} {ss : List Sp} {told : List Bool} {s : Sto}
theorem res_len (C : Case m gs ss) : (resS m gs ss told).R.length ≤ 21 := by
  have h15 := manyT_le C.hm (ss := ss)
  have hl := C.hl
  have hg := C.hg
  unfold resS
  rw [goS_len]
  simp
  omega
theorem is_ring_at (C : Case m gs ss) (hw : told.length = manyT m ss) (w : D) {b : Bool} (hr : ∀ s, f_is_round [.lst ((resS m gs ss told).R.map rD), w] s = .ok (.bl b) s) (hb : b = false) : f_is_ring [bookD m gs, scrD ss, .tup (told.map .bl), w] s = .err { cls := "InvalidRing" } s := by
  have h15 := manyT_le C.hm (ss := ss)
  have hl := C.hl
  have hg := C.hg
  subst hb
  have rb := fun s => run_by_ok (m := m) (gs := gs) (ss := ss) (told := told) (s := s) C.hm (by omega) (by omega) (by omega)
  unfold resS at hr
  simp [f_is_ring, defF_ap, need_word_ok C.hm C.hg C.hgs C.hl C.hs hw, rb, lineD, hr]
theorem asBools_bl {α : Type} {g : α → Bool} {l : List α} : asBools (l.map fun x => .bl (g x)) = some (l.map g) := asBools_map
theorem is_ring_ok (C : Case m gs ss) (hw : told.length = manyT m ss) {v : List Nat} (hv : Ring (resS m gs ss told).R.length v) :
    f_is_ring [bookD m gs, scrD ss, .tup (told.map .bl), .tup (natD v)] s = if roundOk (resS m gs ss told).R v = true then .ok (.bl (ansR (resS m gs ss told).R v)) s else .err { cls := "InvalidRing" } s := by
  have hlen := res_len (told := told) C
  have h15 := manyT_le C.hm (ss := ss)
  have hl := C.hl
  have hg := C.hg
  have ir := fun s => is_round_ok (R := (resS m gs ss told).R) (v := v) (s := s) hv (by omega)
  cases e : roundOk (resS m gs ss told).R v
  · rw [is_ring_at C hw _ ir e]
    simp
  · have rb := fun s => run_by_ok (m := m) (gs := gs) (ss := ss) (told := told) (s := s) C.hm (by omega) (by omega) (by omega)
    rw [e] at ir
    have eR : (goS m told ss ⟨firstF m, gs.map gR, []⟩).R = (resS m gs ss told).R := rfl
    generalize hR : (resS m gs ss told).R = R at *
    have lc1 : lcL (.nm 6) bYes le_is_ring_1 [some (bookD m gs), some (scrD ss), some (.tup (told.map .bl)), some (.tup (natD v)), some (.lst (R.map rD)), none, none] (natD v) s = .ok ((v.map fun i => (rAt R i).2.2.1).map .int) s := by
      rw [List.map_map]
      exact lc_mapL fun i hi => by
        have a1 := atI_R (R := R) (hv.lt i hi)
        simp [le_is_ring_1, a1]
    have lc2 : ∀ t : Int, lcL (.nm 6) bYes le_is_ring_0 [some (bookD m gs), some (scrD ss), some (.tup (told.map .bl)), some (.tup (natD v)), some (.lst (R.map rD)), some (.int t), none] (natD v) s = .ok (v.map fun i => .bl (rAt R i).2.2.2) s := fun t => lc_mapL fun i hi => by
      have a1 := atI_R (R := R) (hv.lt i hi)
      simp [le_is_ring_0, a1]
    have gs' : ∀ s, gSum s [.lst ((v.map fun i => (rAt R i).2.2.1).map .int)] = some (.int (totalR R v)) := fun s => gSum_map
    have ga : ∀ s, gAny s [.lst (v.map fun i => .bl (rAt R i).2.2.2)] = some (.bl (strictR R v)) := fun s => by
      unfold gAny
      simp only [asBools_bl, Option.map_some, List.any_map]
      rfl
    simp only [List.map_map] at lc1 gs'
    by_cases t1 : 0 < totalR R v
    · simp [f_is_ring, defF_ap, need_word_ok C.hm C.hg C.hgs C.hl C.hs hw, rb, lineD, eR, ir, lc1, gs', t1, ansR]
    · by_cases t0 : totalR R v = 0
      · simp [f_is_ring, defF_ap, need_word_ok C.hm C.hg C.hgs C.hl C.hs hw, rb, lineD, eR, ir, lc1, gs', t0, ansR, dEq_ii, lc2, ga]
      · simp [f_is_ring, defF_ap, need_word_ok C.hm C.hg C.hgs C.hl C.hs hw, rb, lineD, eR, ir, lc1, gs', t1, t0, ansR, dEq_ii]
/-! what is no round -/
theorem round_non {x : D} : f_is_round [x, .non] s = .ok (.bl false) s := by simp [f_is_round, defF_ap, tyN, isiB]
theorem round_lst {x : D} {l : List D} : f_is_round [x, .lst l] s = .ok (.bl false) s := by simp [f_is_round, defF_ap, tyN, isiB]
theorem round_nil {x : D} : f_is_round [x, .tup []] s = .ok (.bl false) s := by simp [f_is_round, defF_ap, tyN, isiB]
theorem round_long {x : D} {l : List D} (h : 50 < l.length) : f_is_round [x, .tup l] s = .ok (.bl false) s := by
  have h1 : (1 : Int) ≤ l.length := by omega
  have h2 : ¬ ((l.length : Int) ≤ 50) := by omega
  simp [f_is_round, defF_ap, tyN, isiB, h1, h2]
theorem round_one {R : List D} {d : D} (hd : dta d) (h : isFrom d 0 ((R.length : Int) - 1) = false) : f_is_round [.lst R, .tup [d]] s = .ok (.bl false) s := by
  have fr := fun s => is_from_ok (s := s) (lo := 0) (hi := (R.length : Int) - 1) hd
  have al : ∀ s, gAll s [.lst [.bl false]] = some (.bl false) := fun _ => rfl
  simp [f_is_round, defF_ap, tyN, isiB, lcL_c, le_is_round_1, fr, h, al]
theorem okD_ring : okD (.str "ring") = true := by decide +kernel
theorem okD_word : okD (.str "word") = true := by decide +kernel
@[simp] theorem ne_wr : ((Str.ofString "InvalidWord") = (Str.ofString "InvalidRing")) = False := eq_false (by decide +kernel)
@[simp] theorem in_ring : ((Str.ofString "InvalidRing") ∈ kn__law_told) = True := eq_true (by decide +kernel)
@[simp] theorem in_word : ((Str.ofString "InvalidWord") ∈ kn__law_told) = True := eq_true (by decide +kernel)
theorem tell_ring {f : E} {env : Env} (h : f env s = .err { cls := "InvalidRing" } s) : eLamK kn__law_told hs__law_told none f env s = .ok (.str "ring") s := by
  unfold eLamK tellK
  rw [h]
  simp [pickX, hs__law_told]
theorem tell_word {f : E} {env : Env} (h : f env s = .err { cls := "InvalidWord" } s) : eLamK kn__law_told hs__law_told none f env s = .ok (.str "word") s := by
  unfold eLamK tellK
  rw [h]
  simp [pickX, hs__law_told]
theorem tell_ok {f : E} {env : Env} {d : D} (h : f env s = .ok d s) : eLamK kn__law_told hs__law_told none f env s = .ok d s := by
  unfold eLamK tellK
  rw [h]
theorem dNe_ss {x y : Str} (hx : okD (.str x) = true) (hy : okD (.str y) = true) : dNe s (.str x) (.str y) = some (.bl (!(x == y))) := by
  simp [dNe, hx, hy]
@[simp] theorem dIsN_b {b : Bool} : dIsN s (.bl b) .non = some (.bl false) := rfl
@[simp] theorem dIsN_n : dIsN s .non .non = some (.bl true) := rfl
end
end G

end
section
namespace G
open PySem PySem.Spec L2
section
variable {m : Nat} {gs : List Gp} {ss : List Sp} {told : List Bool} {s : Sto}
theorem okD_rows {R : List Rw} (h : R.length ≤ 60) : okD (.lst (R.map rD)) = true := okT.ok (n := 50) (okT_lstI (n := 49) (fun y hy => by
  obtain ⟨r, _, e⟩ := List.mem_map.mp hy
  rw [← e]
  exact okT.le (n := 1) (okT_tupI (by simp)) (by omega)) (by simp; omega)) (by omega)
theorem rep_len {l : List D} {k : Nat} : (List.replicate k l).flatten.length = k * l.length := by simp
theorem odds_ok (C : Case m gs ss) (hw : told.length = manyT m ss) {v : List Nat} (hv : Ring (resS m gs ss told).R.length v) {x0 x5 x6 x7 x8 : Option D} :
    ∃ y8, forL (.nm 8) lb__law_rings_right_0 [.non, .tup [], .lst (natD v), .tup [.int (-1)], .tup [.int ((resS m gs ss told).R.length : Nat)], .tup [.bl true], .tup (cutD (List.replicate 51 (natD v)).flatten none (some 51))] [x0, some (bookD m gs), some (scrD ss), some (.tup (told.map .bl)), some (.lst ((resS m gs ss told).R.map rD)), x5, x6, x7, x8] s =
      .ok .nx [x0, some (bookD m gs), some (scrD ss), some (.tup (told.map .bl)), some (.lst ((resS m gs ss told).R.map rD)), x5, x6, x7, y8] s := by
  have key := for_inv (body := lb__law_rings_right_0) (i := 8) (s := s) (ds := [.non, .tup [], .lst (natD v), .tup [.int (-1)], .tup [.int ((resS m gs ss told).R.length : Nat)], .tup [.bl true], .tup (cutD (List.replicate 51 (natD v)).flatten none (some 51))]) (env := [x0, some (bookD m gs), some (scrD ss), some (.tup (told.map .bl)), some (.lst ((resS m gs ss told).R.map rD)), x5, x6, x7, x8])
    (I := fun env s' => (∃ y, env = [x0, some (bookD m gs), some (scrD ss), some (.tup (told.map .bl)), some (.lst ((resS m gs ss told).R.map rD)), x5, x6, x7, y]) ∧ s' = s) ⟨⟨_, rfl⟩, rfl⟩ fun d hd env s' ⟨⟨y, ee⟩, es⟩ => by
      subst ee es
      have hr : ∀ s, f_is_round [.lst ((resS m gs ss told).R.map rD), d] s = .ok (.bl false) s := fun s => by
        simp only [List.mem_cons, List.not_mem_nil, or_false] at hd
        rcases hd with rfl | rfl | rfl | rfl | rfl | rfl | rfl
        · exact round_non
        · exact round_nil
        · exact round_lst
        · exact round_one ⟨_, rfl⟩ (by simp [isFrom])
        · exact round_one ⟨_, rfl⟩ (by simp [isFrom]; omega)
        · exact round_one ⟨_, rfl⟩ (by simp [isFrom])
        · refine round_long ?_
          have hp : 0 < v.length := List.length_pos_iff.mpr hv.ne
          have := cutD_pre (l := (List.replicate 51 (natD v)).flatten) (k := 51) (by rw [rep_len, natD_len]; omega)
          have e51 : ((51 : Nat) : Int) = 51 := rfl
          rw [e51] at this
          rw [this, List.length_take, rep_len, natD_len]
          omega
      have ir := is_ring_at (s := s') C hw d hr rfl
      refine ⟨[x0, some (bookD m gs), some (scrD ss), some (.tup (told.map .bl)), some (.lst ((resS m gs ss told).R.map rD)), x5, x6, x7, some d], s', .inl ?_, ⟨_, rfl⟩, rfl⟩
      have tl := tell_ring (s := s') (f := ll__law_rings_right_1) (env := [x0, some (bookD m gs), some (scrD ss), some (.tup (told.map .bl)), some (.lst ((resS m gs ss told).R.map rD)), x5, x6, x7, some d]) (by simp [ll__law_rings_right_1, ir])
      simp [lb__law_rings_right_0, tl, dNe_ss okD_ring okD_ring]
  obtain ⟨env', s', e, ⟨y, ee⟩, es⟩ := key
  subst ee es
  exact ⟨y, e⟩
theorem mul51 {v : List Nat} {L : Nat} (hv : Ring L v) : dMul s (.tup (natD v)) (.int 51) = some (.tup (List.replicate 51 (natD v)).flatten) := by
  have hp : 0 < v.length := List.length_pos_iff.mpr hv.ne
  have hl := hv.len
  have ne : natD v ≠ [] := by
    intro z
    have := natD_len (v := v)
    rw [z] at this
    simp at this
    omega
  unfold dMul
  simp [ne, natD_len, show v.length ≤ 1000 by omega]
theorem rings_right_ok {n : Nat} (hj : Jar n s) (C : Case m gs ss) (hw : told.length = manyT m ss) : ∃ s', f__law_rings_right [.cel n, bookD m gs, scrD ss, .tup (told.map .bl), .lst ((resS m gs ss told).R.map rD)] s = .ok (.bl true) s' ∧ Jr n s s' := by
  have hlen := res_len (told := told) C
  have okR := okD_rows (R := (resS m gs ss told).R) (by omega)
  have out := for_out (body := lb__law_rings_right_1) (i := 5) (ds := rngD 0 6) (k := 0) (env := [some (.cel n), some (bookD m gs), some (scrD ss), some (.tup (told.map .bl)), some (.lst ((resS m gs ss told).R.map rD)), none, none, none, none]) (s := s)
    (I := fun _ env s3 => (∃ x5 x6 x7 x8, env = [some (.cel n), some (bookD m gs), some (scrD ss), some (.tup (told.map .bl)), some (.lst ((resS m gs ss told).R.map rD)), x5, x6, x7, x8]) ∧ Jr n s s3)
    (P := fun d s3 => d = .bl true ∧ Jr n s s3) ⟨⟨_, _, _, _, rfl⟩, Jr.refl hj⟩ fun k d hd env s3 ⟨⟨x5, x6, x7, x8, ee⟩, j3⟩ => by
      subst ee
      by_cases h0 : (resS m gs ss told).R = []
      · refine .inr ⟨.bl true, [some (.cel n), some (bookD m gs), some (scrD ss), some (.tup (told.map .bl)), some (.lst ((resS m gs ss told).R.map rD)), some d, x6, x7, x8], s3, ?_, rfl, j3⟩
        simp [lb__law_rings_right_1, h0, dEq]
      · obtain ⟨v, s4, e4, hv, j4⟩ := drawn_ring_ok (R := (resS m gs ss told).R) j3.jar h0 (by omega)
        have du := due_ok (R := (resS m gs ss told).R) (v := v) (s := s4) hv (by omega)
        have ir := is_ring_ok (s := s4) C hw hv
        have nel : ∀ s, dEq s (.lst ((resS m gs ss told).R.map rD)) (.lst []) = some (.bl false) := fun s => by
          have : deqL ((resS m gs ss told).R.map rD) [] = false := by
            cases q : (resS m gs ss told).R with
            | nil => exact absurd q h0
            | cons => simp
          simp [dEq, okR, this]
        have m51 := fun s => mul51 (s := s) hv
        have gl : ∀ s, gLen s [.lst ((resS m gs ss told).R.map rD)] = some (.int ((resS m gs ss told).R.length : Nat)) := fun s => by simp
        refine .inl ?_
        cases e : roundOk (resS m gs ss told).R v
        · rw [e] at du ir
          simp only [Bool.false_eq_true, if_false] at du ir
          obtain ⟨y8, eo⟩ := odds_ok (s := s4) C hw hv (x0 := some (.cel n)) (x5 := some d) (x6 := some (.tup (natD v))) (x7 := some .non) (x8 := x8)
          have tl := tell_ring (s := s4) (f := ll__law_rings_right_0) (env := [some (.cel n), some (bookD m gs), some (scrD ss), some (.tup (told.map .bl)), some (.lst ((resS m gs ss told).R.map rD)), some d, some (.tup (natD v)), some .non, x8]) (by simp [ll__law_rings_right_0, ir])
          refine ⟨_, s4, ?_, ⟨some d, some (.tup (natD v)), some .non, y8, rfl⟩, j3.trans j4⟩
          simp [lb__law_rings_right_1, nel, e4, du, tl, dNe_ss okD_ring okD_ring, m51, -gLen_lst, gl]
          simpa using eo
        · rw [e] at du ir
          simp only [if_true] at du ir
          obtain ⟨y8, eo⟩ := odds_ok (s := s4) C hw hv (x0 := some (.cel n)) (x5 := some d) (x6 := some (.tup (natD v))) (x7 := some (.bl (ansR (resS m gs ss told).R v))) (x8 := x8)
          have tl := tell_ok (s := s4) (f := ll__law_rings_right_0) (env := [some (.cel n), some (bookD m gs), some (scrD ss), some (.tup (told.map .bl)), some (.lst ((resS m gs ss told).R.map rD)), some d, some (.tup (natD v)), some (.bl (ansR (resS m gs ss told).R v)), x8]) (d := .bl (ansR (resS m gs ss told).R v)) (by simp [ll__law_rings_right_0, ir])
          refine ⟨_, s4, ?_, ⟨some d, some (.tup (natD v)), some (.bl (ansR (resS m gs ss told).R v)), y8, rfl⟩, j3.trans j4⟩
          generalize ansR (resS m gs ss told).R v = b at *
          simp [lb__law_rings_right_1, nel, e4, du, tl, dNe, m51, -gLen_lst, gl]
          simpa using eo
  have r6 : gR1 [.int 6] = some (rngD 0 6) := rfl
  rcases out with ⟨env', s3, e3, ⟨x5, x6, x7, x8, ee⟩, j3⟩ | ⟨d', env', s3, e3, ed, j3⟩
  · subst ee
    refine ⟨s3, ?_, j3⟩
    simp [f__law_rings_right, defF_ap, e3]
  · subst ed
    refine ⟨s3, ?_, j3⟩
    simp [f__law_rings_right, defF_ap, e3]
end
end G

end
section
namespace G
open PySem PySem.Spec L2
theorem deqL_refl : ∀ {l : List D}, (∀ y ∈ l, deq y y = true) → deqL l l = true
  | [], _ => by simp
  | d :: l, h => by simp [h d (List.mem_cons_self ..), deqL_refl fun y hy => h y (List.mem_cons_of_mem _ hy)]
theorem deq_refl : ∀ (n : Nat) (d : D), okT n d → deq d d = true := by
  intro n
  induction n with
  | zero =>
    intro d h
    cases d <;> first | (unfold okT at h; exact h.elim) | (simp [deq]; done)
  | succ n ih =>
    intro d h
    cases d with
    | tup l => simp [deqL_refl fun y hy => ih y (okT_tup h y hy)]
    | lst l => simp [deqL_refl fun y hy => ih y (okT_lst h y hy)]
    | _ => first | (unfold okT at h; exact h.elim) | (simp [deq]; done)
theorem dNe_refl {n : Nat} {d : D} {s : Sto} (h : okT n d) (hn : n ≤ 60) : dNe s d d = some (.bl false) := by
  simp [dNe, h.deref, h.ok hn, deq_refl n d h]
section
variable {m : Nat} {gs : List Gp} {ss : List Sp} {told : List Bool} {s : Sto}
theorem okT_F {F : List Fm} (h : F.length ≤ 60) : okT 50 (.tup (F.map fD)) := okT_tupI (n := 49) (fun y hy => by
  obtain ⟨r, _, e⟩ := List.mem_map.mp hy
  rw [← e]
  exact okT.le (n := 1) (okT_tupI (by simp)) (by omega)) (by simp; omega)
theorem okT_R {R : List Rw} (h : R.length ≤ 60) : okT 50 (.lst (R.map rD)) := okT_lstI (n := 49) (fun y hy => by
  obtain ⟨r, _, e⟩ := List.mem_map.mp hy
  rw [← e]
  exact okT.le (n := 1) (okT_tupI (by simp)) (by omega)) (by simp; omega)
theorem goS_lenF {m : Nat} {told : List Bool} : ∀ {ss : List Sp} {r : RS}, (goS m told ss r).F.length = r.F.length
  | [], r => rfl
  | sp :: ss, r => by
    obtain ⟨g1, g2, g3⟩ := goTs_len (told := told) (ts := testsL m sp) (r := shS sp r)
    obtain ⟨k1, k2, k3⟩ := shS_len (s := sp) (r := r)
    unfold goS
    rw [goS_lenF, g1, k1]
theorem res_lenF (C : Case m gs ss) : (resS m gs ss told).F.length ≤ 6 := by
  unfold resS
  rw [goS_lenF]
  have := C.hm
  simp [firstF]
  omega
theorem forms_bad (C : Case m gs ss) {w : D} (hw : w = .non ∨ (∃ l, w = .lst l) ∨ ∃ l, w = .tup l ∧ l.length ≠ manyT m ss) : f_forms [bookD m gs, scrD ss, w] s = .err { cls := "InvalidWord" } s := by
  simp [f_forms, defF_ap, need_word_bad C.hm C.hg C.hgs C.hl C.hs hw]
theorem rows_bad (C : Case m gs ss) {w : D} (hw : w = .non ∨ (∃ l, w = .lst l) ∨ ∃ l, w = .tup l ∧ l.length ≠ manyT m ss) : f_rows [bookD m gs, scrD ss, w] s = .err { cls := "InvalidWord" } s := by
  simp [f_rows, defF_ap, need_word_bad C.hm C.hg C.hgs C.hl C.hs hw]
theorem lk_forms : List.lookup ("forms" : Str) [("forms", f_forms), ("rows", f_rows)] = some f_forms := by simp [List.lookup]
theorem lk_rows : List.lookup ("rows" : Str) [("forms", f_forms), ("rows", f_rows)] = some f_rows := by
  have : (("rows" : Str) == ("forms" : Str)) = false := by decide +kernel
  simp [List.lookup, this]
theorem odd_words (C : Case m gs ss) {x0 x1 x2 x3 x4 x7 x8 x9 x10 x12 x13 x14 x15 x16 x11 : Option D} {ds : List D} (hds : ∀ w ∈ ds, w = .non ∨ (∃ l, w = .lst l) ∨ ∃ l, w = .tup l ∧ l.length ≠ manyT m ss) :
    ∃ y11 y13, forL (.nm 11) lb_law_1 ds [x0, x1, x2, x3, x4, some (bookD m gs), some (scrD ss), x7, x8, x9, x10, x11, x12, x13, x14, x15, x16] s = .ok .nx [x0, x1, x2, x3, x4, some (bookD m gs), some (scrD ss), x7, x8, x9, x10, y11, x12, y13, x14, x15, x16] s := by
  obtain ⟨env', s', e, ⟨y11, y13, ee⟩, es⟩ := for_inv (body := lb_law_1) (i := 11) (s := s) (ds := ds) (env := [x0, x1, x2, x3, x4, some (bookD m gs), some (scrD ss), x7, x8, x9, x10, x11, x12, x13, x14, x15, x16])
    (I := fun env s' => (∃ y11 y13, env = [x0, x1, x2, x3, x4, some (bookD m gs), some (scrD ss), x7, x8, x9, x10, y11, x12, y13, x14, x15, x16]) ∧ s' = s) ⟨⟨_, _, rfl⟩, rfl⟩ fun w hw env s' ⟨⟨y11, y13, ee⟩, es⟩ => by
      subst ee es
      have fb := forms_bad (s := s') C (hds w hw)
      have rb := rows_bad (s := s') C (hds w hw)
      refine ⟨[x0, x1, x2, x3, x4, some (bookD m gs), some (scrD ss), x7, x8, x9, x10, some w, x12, some (.fn "rows"), x14, x15, x16], s', .inl ?_, ⟨_, _, rfl⟩, rfl⟩
      have t1 := tell_word (s := s') (f := ll_law_0) (env := [x0, x1, x2, x3, x4, some (bookD m gs), some (scrD ss), x7, x8, x9, x10, some w, x12, some (.fn "forms"), x14, x15, x16]) (by
        unfold ll_law_0
        rw [eCallV_ok (x := "forms") (F := f_forms) rfl lk_forms]
        simp [fb])
      have t2 := tell_word (s := s') (f := ll_law_0) (env := [x0, x1, x2, x3, x4, some (bookD m gs), some (scrD ss), x7, x8, x9, x10, some w, x12, some (.fn "rows"), x14, x15, x16]) (by
        unfold ll_law_0
        rw [eCallV_ok (x := "rows") (F := f_rows) rfl lk_rows]
        simp [rb])
      simp [lb_law_1, forL_c bind_nm, lb_law_0, t1, t2, dNe_ss okD_word okD_word]
  subst ee es
  exact ⟨y11, y13, e⟩
theorem dNe_nil : dNe s (.lst []) (.lst []) = some (.bl false) := by simp [dNe]
/-- one turn of the law -/
theorem turn_ok {n : Nat} {x0 x1 x3 x4 x5 x6 x7 x8 x9 x10 x11 x12 x13 x14 x15 x16 : Option D} (hj : Jar n s) : ∃ y4 y5 y6 y7 y8 y9 y11 y13 s', lb_law_2 [x0, x1, some (.cel n), x3, x4, x5, x6, x7, x8, x9, x10, x11, x12, x13, x14, x15, x16] s = .ok .nx [x0, x1, some (.cel n), x3, y4, y5, y6, y7, y8, y9, x10, y11, x12, y13, x14, x15, x16] s' ∧ Jr n s s' := by
  obtain ⟨r, s1, e1, r0, r1, j1⟩ := dip_ok (w := 3) hj (by omega) (by omega)
  obtain ⟨m, em⟩ : ∃ m : Nat, 1 + r = (m : Int) := ⟨(1 + r).toNat, by omega⟩
  have hm : m = 1 ∨ m = 2 ∨ m = 3 := by omega
  have hm' : 1 ≤ (m : Int) ∧ (m : Int) ≤ 3 := by omega
  obtain ⟨bk, s2, e2, l2, o2, j2⟩ := book_ok (k := 5) j1.jar hm' (by omega)
  obtain ⟨st, s3, e3, l3, o3, j3⟩ := steps_ok (k := 4) j2.jar hm' (by omega)
  obtain ⟨gs, rfl, hgs⟩ := isGapDs o2
  obtain ⟨ss, rfl, hss⟩ := isStepDs o3
  have C : Case m gs ss := ⟨hm, by simp at l2; omega, hgs, by simp at l3; omega, hss⟩
  obtain ⟨told, s4, e4, hw, j4⟩ := drawn_word_ok (ss := ss) j3.jar hm C.hl
  have led := fun s => law_led_ok (s := s) C hw
  have fo := fun s => forms_ok (s := s) C hw
  have ro := fun s => rows_ok (s := s) C hw
  have hR := res_len (told := told) C
  have hF := res_lenF (told := told) C
  have nF := fun s => dNe_refl (s := s) (okT_F (F := (resS m gs ss told).F) (by omega)) (by omega)
  have nR := fun s => dNe_refl (s := s) (okT_R (R := (resS m gs ss told).R) (by omega)) (by omega)
  obtain ⟨s5, e5, j5⟩ := rings_right_ok j4.jar C hw
  have h15 := manyT_le hm (ss := ss)
  have hl5 := C.hl
  obtain ⟨y11, y13, e6⟩ := odd_words (s := s5) C (x0 := x0) (x1 := x1) (x2 := some (.cel n)) (x3 := x3) (x4 := some (.int m)) (x7 := some (.tup (told.map .bl))) (x8 := some (.tup ((resS m gs ss told).F.map fD))) (x9 := some (.lst ((resS m gs ss told).R.map rD))) (x10 := x10) (x11 := x11) (x12 := x12) (x13 := x13) (x14 := x14) (x15 := x15) (x16 := x16)
    (ds := [.non, .lst (told.map .bl), .tup (told.map .bl ++ [.bl false]), .tup ([.str "x"] ++ told.map .bl), .tup ((told.map fun _ => .int 1) ++ [.bl true])]) (fun w hw' => by
      simp only [List.mem_cons, List.not_mem_nil, or_false] at hw'
      rcases hw' with rfl | rfl | rfl | rfl | rfl
      · exact .inl rfl
      · exact .inr (.inl ⟨_, rfl⟩)
      · exact .inr (.inr ⟨_, rfl, by simp; omega⟩)
      · exact .inr (.inr ⟨_, rfl, by simp; omega⟩)
      · exact .inr (.inr ⟨_, rfl, by simp; omega⟩))
  have lcr : lcL (.nm 10) lt_law_0 (eVar 10) [x0, x1, some (.cel n), x3, some (.int m), some (bookD m gs), some (scrD ss), some (.tup (told.map .bl)), some (.tup ((resS m gs ss told).F.map fD)), some (.lst ((resS m gs ss told).R.map rD)), none, x11, x12, x13, x14, x15, x16] ((resS m gs ss told).R.map rD) s4 = .ok [] s4 := by
    have := lc_filter (f := eVar 10) (t := lt_law_0) (g := fun _ => false) (env := [x0, x1, some (.cel n), x3, some (.int m), some (bookD m gs), some (scrD ss), some (.tup (told.map .bl)), some (.tup ((resS m gs ss told).F.map fD)), some (.lst ((resS m gs ss told).R.map rD)), none, x11, x12, x13, x14, x15, x16]) (i := 10) (s := s4) (fun d => by simp) (ds := (resS m gs ss told).R.map rD) fun d hd => by
      obtain ⟨q, _, ed⟩ := List.mem_map.mp hd
      subst ed
      simp [lt_law_0, tyN, isiB]
    rw [this]
    simp
  have a1 : ∀ s, dAdd s (.tup (told.map .bl)) (.tup [.bl false]) = some (.tup (told.map .bl ++ [.bl false])) := fun s => dAdd_tt (by simp; omega)
  have a2 : ∀ s, dAdd s (.tup [.str "x"]) (.tup (told.map .bl)) = some (.tup ([.str "x"] ++ told.map .bl)) := fun s => dAdd_tt (by simp; omega)
  have a3 : ∀ s, dAdd s (.tup (told.map fun _ => .int 1)) (.tup [.bl true]) = some (.tup ((told.map fun _ => .int 1) ++ [.bl true])) := fun s => dAdd_tt (by simp; omega)
  have lci : ∀ (env : Env) (s : Sto), lcL (.nm 12) bYes (eC (.int 1)) env (told.map .bl) s = .ok (told.map fun _ => .int 1) s := fun env s => lc_mapL fun i hi => by simp
  have eb : D.tup [.int m, .tup (gs.map gpD)] = bookD m gs := rfl
  have es : D.tup (ss.map spT) = scrD ss := rfl
  rw [eb] at e2
  rw [es] at e3
  have b1 : ∀ s, gIx s (bookD m gs) (.int 1) = some (.tup (gs.map gpD)) := fun _ => by simp [bookD]
  refine ⟨some (.int m), some (bookD m gs), some (scrD ss), some (.tup (told.map .bl)), some (.tup ((resS m gs ss told).F.map fD)), some (.lst ((resS m gs ss told).R.map rD)), y11, y13, s5, ?_, (((j1.trans j2).trans j3).trans j4).trans j5⟩
  simp only [List.cons_append, List.nil_append] at a2 e6
  simp [lb_law_2, e1, em, e2, e3, e4, led, b1, fo, ro, nF, nR, lcr, dNe_nil, e5, a1, a2, a3, lci]
  exact e6
end
end G

end
section
namespace G
open PySem PySem.Spec L2
@[simp] theorem pow18 {s : Sto} : dPow s (.int 10) (.int 18) = some (.int 1000000000000000000) := by rfl
theorem jar_ok {ns : List Int} {s : Sto} {k : Int} (h0 : 0 ≤ k) (h1 : k < 1000) : ∃ a b : Int, f__law_jar [.scr ns, .int k] s = .ok (.lst [.int a, .int b]) s ∧ 0 ≤ a ∧ 0 ≤ b ∧ b < 2147483648 := by
  have m1 : ∀ s, dMul s (.int 107) (.int k) = some (.int (107 * k)) := fun _ => dMul_ii (by omega) (by omega)
  have m2 : ∀ s, dMul s (.int 40153) (.int k) = some (.int (40153 * k)) := fun _ => dMul_ii (by omega) (by omega)
  have go : ∀ c : Int, 0 ≤ c → ∃ a b : Int, (finF ((sRet (eLst (lCons (eIf (bVal (eOp dGe (eVar 2) (eOp dPow (eC (.int 10)) (eC (.int 18))))) (eVar 2) (eC (.int 0))) (lCons (eOp dMod (eFn gInt (lCons (eOp dAdd (eOp dAdd (eOp dMod (eFn gInt (lCons (eVar 2) (lNil))) (eC (.int 2147477857))) (eOp dMul (eC (.int 40153)) (eVar 1))) (eC (.int 709))) (lNil))) (eC (.int 2147477857))) (lNil))))) [some (.scr ns), some (.int k), some (.int c)] s)) = .ok (.lst [.int a, .int b]) s ∧ 0 ≤ a ∧ 0 ≤ b ∧ b < 2147483648 := fun c hc => by
    have b0 : 0 ≤ (c % 2147477857 + 40153 * k + 709) % 2147477857 := Int.emod_nonneg _ (by decide)
    have b1 : (c % 2147477857 + 40153 * k + 709) % 2147477857 < 2147477857 := Int.emod_lt_of_pos _ (by decide)
    by_cases hge : 1000000000000000000 ≤ c
    · exact ⟨c, _, by simp [m2, dMod_ii, hge], hc, b0, by omega⟩
    · exact ⟨0, _, by simp [m2, dMod_ii, hge], by omega, b0, by omega⟩
  by_cases hk : k < ns.length
  · obtain ⟨v, hv⟩ : ∃ v, atI ns k = some v := by
      have hr : k.toNat < ns.length := by omega
      exact ⟨ns[k.toNat], by rw [atI_nat h0 hk, List.getElem?_eq_getElem hr]⟩
    obtain ⟨a, b, e, r⟩ := go (if v < 0 then -v else v) (by split <;> omega)
    refine ⟨a, b, ?_, r⟩
    rw [← e]
    simp [f__law_jar, defF_ap, hk, hv]
  · obtain ⟨a, b, e, r⟩ := go (107 * k + 67) (by omega)
    refine ⟨a, b, ?_, r⟩
    rw [← e]
    simp [f__law_jar, defF_ap, hk, m1]
theorem jars_ok {ns : List Int} {s : Sto} {k : Int} {x2 x3 x4 x5 x6 x7 x8 x9 x10 x11 x12 x13 x14 x15 x16 : Option D} (h0 : 0 ≤ k) (h1 : k < 1000) : ∃ y2 y3 y4 y5 y6 y7 y8 y9 y11 y13 s', lb_law_3 [some (.scr ns), some (.int k), x2, x3, x4, x5, x6, x7, x8, x9, x10, x11, x12, x13, x14, x15, x16] s = .ok .nx [some (.scr ns), some (.int k), y2, y3, y4, y5, y6, y7, y8, y9, x10, y11, x12, y13, x14, x15, x16] s' := by
  obtain ⟨a, b, e1, ha, hb, hb2⟩ := jar_ok (ns := ns) (s := s) h0 h1
  have hj : Jar s.cel.length (newCel s [.int a, .int b]) := ⟨a, b, newCel_new, ha, hb, hb2⟩
  obtain ⟨env', s2, e2, ⟨y3, y4, y5, y6, y7, y8, y9, y11, y13, ee⟩, j2⟩ := for_inv (body := lb_law_2) (i := 3) (ds := rngD 0 2) (env := [some (.scr ns), some (.int k), some (.cel s.cel.length), x3, x4, x5, x6, x7, x8, x9, x10, x11, x12, x13, x14, x15, x16]) (s := newCel s [.int a, .int b])
    (I := fun env s2 => (∃ y3 y4 y5 y6 y7 y8 y9 y11 y13, env = [some (.scr ns), some (.int k), some (.cel s.cel.length), y3, y4, y5, y6, y7, y8, y9, x10, y11, x12, y13, x14, x15, x16]) ∧ Jar s.cel.length s2) ⟨⟨_, _, _, _, _, _, _, _, _, rfl⟩, hj⟩ fun d hd env s2 ⟨⟨y3, y4, y5, y6, y7, y8, y9, y11, y13, ee⟩, j2⟩ => by
      subst ee
      obtain ⟨z4, z5, z6, z7, z8, z9, z11, z13, s3, e3, j3⟩ := turn_ok (x0 := some (.scr ns)) (x1 := some (.int k)) (x3 := some d) (x4 := y4) (x5 := y5) (x6 := y6) (x7 := y7) (x8 := y8) (x9 := y9) (x10 := x10) (x11 := y11) (x12 := x12) (x13 := y13) (x14 := x14) (x15 := x15) (x16 := x16) j2
      exact ⟨_, s3, .inl e3, ⟨_, _, _, _, _, _, _, _, _, rfl⟩, j3.jar⟩
  subst ee
  refine ⟨some (.cel s.cel.length), y3, y4, y5, y6, y7, y8, y9, y11, y13, s2, ?_⟩
  have hp : pureL [D.int a, .int b] = true := rfl
  simp [lb_law_3, e1, e2, hp]
/-- data of known texts, told by a sum -/
def okTb : Nat → D → Bool
  | _, .non => true
  | _, .bl _ => true
  | _, .int _ => true
  | _, .str x => strsOk.contains x
  | n + 1, .tup l => decide (l.length ≤ 20 + n) && l.all (okTb n)
  | n + 1, .lst l => decide (l.length ≤ 20 + n) && l.all (okTb n)
  | _, _ => false
theorem okTb_ok : ∀ (n : Nat) (d : D), okTb n d = true → okT n d := by
  intro n
  induction n with
  | zero =>
    intro d h
    cases d <;> first | exact okT_int | exact okT_bl | exact okT_non | (simp [okTb] at h; try exact okT_str h)
  | succ n ih =>
    intro d h
    cases d with
    | tup l =>
      simp only [okTb, Bool.and_eq_true, decide_eq_true_eq, List.all_eq_true] at h
      exact okT_tupI (fun y hy => ih y (h.2 y hy)) h.1
    | lst l =>
      simp only [okTb, Bool.and_eq_true, decide_eq_true_eq, List.all_eq_true] at h
      exact okT_lstI (fun y hy => ih y (h.2 y hy)) h.1
    | _ => first | exact okT_int | exact okT_bl | exact okT_non | (simp [okTb] at h; try exact okT_str h)
theorem gok {m : Nat} {a b v : Int} (h : 0 ≤ a ∧ a < 2 * m ∧ 0 ≤ b ∧ b < 2 * m ∧ a ≠ b ∧ -400 ≤ v ∧ v ≤ 400) : Gp.ok m (a, b, v) := ⟨a, b, v, rfl, h⟩
def gsN : List Gp := [(0, 1, 2), (1, 2, 1), (2, 3, 2)]
theorem gsN_ok : ∀ g ∈ gsN, Gp.ok 2 g := by
  intro g hg
  simp [gsN] at hg
  rcases hg with rfl | rfl | rfl <;> exact gok (by omega)
theorem sp_ok {m : Nat} {l : List Sp} (h : ∀ s ∈ l, s.ok m) : ∀ s ∈ l, s.ok m := h
theorem F1 (s : Sto) : f_forms [.tup [.int 2, .tup []], .tup [.tup [.str "later", .int 3]], .tup [.bl true]] s = .ok (.tup [.tup [.int 0, .int 0], .tup [.int 1, .int 0], .tup [.int 1, .int 3], .tup [.int 3, .int 0]]) s :=
  forms_ok (m := 2) (gs := []) (ss := [.la 3]) (told := [true]) (s := s) ⟨by omega, by simp, by simp, by simp, by simp [Sp.ok]⟩ rfl
theorem F2 (s : Sto) : f_forms [.tup [.int 2, .tup []], .tup [.tup [.str "shift", .int 1, .int 5], .tup [.str "later", .int 2], .tup [.str "longer", .int 1]], .tup [.bl true, .bl false, .bl true]] s = .ok (.tup [.tup [.int 0, .int 0], .tup [.int 1, .int 0], .tup [.int 1, .int 2], .tup [.int 1, .int 3]]) s :=
  forms_ok (m := 2) (gs := []) (ss := [.sh 1 5, .la 2, .lo 1]) (told := [true, false, true]) (s := s) ⟨by omega, by simp, by simp, by simp, by simp [Sp.ok]⟩ rfl
theorem R1 (s : Sto) : f_rows [.tup [.int 2, .tup [.tup [.int 0, .int 1, .int 2], .tup [.int 1, .int 2, .int 1], .tup [.int 2, .int 3, .int 2]]], .tup [.tup [.str "later", .int 3]], .tup [.bl true]] s = .ok (.lst [.tup [.int 0, .int 1, .int 2, .bl false], .tup [.int 1, .int 2, .int 1, .bl false], .tup [.int 2, .int 3, .int 2, .bl false], .tup [.int 2, .int 1, .int (-3), .bl true]]) s :=
  rows_ok (m := 2) (gs := gsN) (ss := [.la 3]) (told := [true]) (s := s) ⟨by omega, by simp [gsN], gsN_ok, by simp, by simp [Sp.ok]⟩ rfl
theorem R2 (s : Sto) : f_rows [.tup [.int 2, .tup []], .tup [.tup [.str "longer", .int 4]], .tup [.bl false, .bl true]] s = .ok (.lst [.tup [.int 0, .int 1, .int 4, .bl false], .tup [.int 3, .int 2, .int (-4), .bl true]]) s :=
  rows_ok (m := 2) (gs := []) (ss := [.lo 4]) (told := [false, true]) (s := s) ⟨by omega, by simp, by simp, by simp, by simp [Sp.ok]⟩ rfl
theorem R3 (s : Sto) : f_rows [.tup [.int 1, .tup []], .tup [.tup [.str "shorter", .int 4]], .tup [.bl true]] s = .ok (.lst [.tup [.int 0, .int 1, .int 4, .bl true]]) s :=
  rows_ok (m := 1) (gs := []) (ss := [.so 4]) (told := [true]) (s := s) ⟨by omega, by simp, by simp, by simp, by simp [Sp.ok]⟩ rfl
theorem G1 (s : Sto) : f_is_ring [.tup [.int 2, .tup [.tup [.int 0, .int 1, .int 2], .tup [.int 1, .int 2, .int 1], .tup [.int 2, .int 3, .int 2]]], .tup [.tup [.str "later", .int 1]], .tup [.bl true], .tup [.int 1, .int 3]] s = .ok (.bl true) s := by
  have := is_ring_ok (m := 2) (gs := gsN) (ss := [.la 1]) (told := [true]) (s := s) (v := [1, 3]) ⟨by omega, by simp [gsN], gsN_ok, by simp, by simp [Sp.ok]⟩ rfl ⟨by simp, by simp, by intro i hi; simp at hi; rcases hi with rfl | rfl <;> decide⟩
  exact this.trans rfl
theorem G2' (s : Sto) : f_is_ring [.tup [.int 1, .tup [.tup [.int 0, .int 1, .int 2], .tup [.int 1, .int 0, .int (-1)]]], .tup [], .tup [], .tup [.int 0, .int 1]] s = .ok (.bl true) s := by
  have := is_ring_ok (m := 1) (gs := [(0, 1, 2), (1, 0, -1)]) (ss := []) (told := []) (s := s) (v := [0, 1]) ⟨by omega, by simp, by intro g hg; simp at hg; rcases hg with rfl | rfl <;> exact gok (by omega), by simp, by simp⟩ rfl ⟨by simp, by simp, by intro i hi; simp at hi; rcases hi with rfl | rfl <;> decide⟩
  exact this.trans rfl
theorem G3 (s : Sto) : f_is_ring [.tup [.int 1, .tup [.tup [.int 0, .int 1, .int 2], .tup [.int 1, .int 0, .int (-2)]]], .tup [], .tup [], .tup [.int 0, .int 1]] s = .ok (.bl false) s := by
  have := is_ring_ok (m := 1) (gs := [(0, 1, 2), (1, 0, -2)]) (ss := []) (told := []) (s := s) (v := [0, 1]) ⟨by omega, by simp, by intro g hg; simp at hg; rcases hg with rfl | rfl <;> exact gok (by omega), by simp, by simp⟩ rfl ⟨by simp, by simp, by intro i hi; simp at hi; rcases hi with rfl | rfl <;> decide⟩
  exact this.trans rfl
theorem pure_law (ns : List Int) (h : ns.length ≤ 63) : ∃ s, f_law [.scr ns] {} = .ok (.bl true) s := by
  have hmax : ∀ (m : Int), (if (if ((ns.length : Int) + 4 < 14) then (ns.length : Int) + 4 else 14) > 5 then (if ((ns.length : Int) + 4 < 14) then (ns.length : Int) + 4 else 14) else 5) = m → -100000 ≤ m ∧ m ≤ 100000 := fun m e => by
    split at e <;> split at e <;> omega
  generalize hm : (if (if ((ns.length : Int) + 4 < 14) then (ns.length : Int) + 4 else 14) > 5 then (if ((ns.length : Int) + 4 < 14) then (ns.length : Int) + 4 else 14) else 5) = m at hmax
  have hm' := hmax m rfl
  have hm2 : m ≤ 14 := by subst hm; split <;> split <;> omega
  obtain ⟨env', s1, e1, ⟨y1, y2, y3, y4, y5, y6, y7, y8, y9, y11, y13, ee⟩⟩ := for_inv (body := lb_law_3) (i := 1) (ds := rngD 0 m.toNat) (env := [some (.scr ns), none, none, none, none, none, none, none, none, none, none, none, none, none, none, none, none]) (s := {})
    (I := fun env _ => ∃ y1 y2 y3 y4 y5 y6 y7 y8 y9 y11 y13, env = [some (.scr ns), y1, y2, y3, y4, y5, y6, y7, y8, y9, none, y11, none, y13, none, none, none]) ⟨_, _, _, _, _, _, _, _, _, _, _, rfl⟩ fun d hd env s ⟨y1, y2, y3, y4, y5, y6, y7, y8, y9, y11, y13, ee⟩ => by
      subst ee
      obtain ⟨k, hk, ed⟩ := rngD_0 hd
      subst ed
      obtain ⟨z2, z3, z4, z5, z6, z7, z8, z9, z11, z13, s', e⟩ := jars_ok (ns := ns) (s := s) (k := (k : Int)) (x2 := y2) (x3 := y3) (x4 := y4) (x5 := y5) (x6 := y6) (x7 := y7) (x8 := y8) (x9 := y9) (x10 := none) (x11 := y11) (x12 := none) (x13 := y13) (x14 := none) (x15 := none) (x16 := none) (by omega) (by omega)
      exact ⟨_, s', .inl e, _, _, _, _, _, _, _, _, _, _, _, rfl⟩
  subst ee
  refine ⟨cut 0 s1, ?_⟩
  have r2 : gR1 [.int m] = some (rngD 0 m.toNat) := by rw [gR1_int, if_pos hm']
  have hI : iOf gR1 (lCons (eFn gMax2 (lCons (eC (.int 5)) (lCons (eFn gMin2 (lCons (eC (.int 14)) (lCons (eOp dAdd (eFn gLen (lCons (eVar 0) lNil)) (eC (.int 4))) lNil))) lNil))) lNil) [some (.scr ns), none, none, none, none, none, none, none, none, none, none, none, none, none, none, none, none] {} = .ok (rngD 0 m.toNat) {} := by
    simp only [iOf_ap, lCons_ap, eFn_ap, eC_ap, eOp_ap, eVar_0, lNil_ap, Res.bind_ok, gLen_scr, Res.of_some, dAdd_ii, gMin2_ii, gMax2_ii, hm]
    rw [r2]
    rfl
  have c0 : ({} : Sto).cel.length = 0 := rfl
  have st : startE 17 [.scr ns] = [some (.scr ns), none, none, none, none, none, none, none, none, none, none, none, none, none, none, none, none] := rfl
  unfold f_law
  rw [defC_ap]
  rw [c0, st]
  simp only [sSeq_ap, sFor_ap, hI, Res.st_ok, e1, SRes.seq_nx]
  have rt : ∀ (n : Nat) (l : List D) s, okT n (.tup l) → n ≤ 60 → dNe s (.tup l) (.tup l) = some (.bl false) := fun n l s h1 h2 => dNe_refl h1 h2
  have rl : ∀ (n : Nat) (l : List D) s, okT n (.lst l) → n ≤ 60 → dNe s (.lst l) (.lst l) = some (.bl false) := fun n l s h1 h2 => dNe_refl h1 h2
  have n1 := fun s => rt 2 [.tup [.int 0, .int 0], .tup [.int 1, .int 0], .tup [.int 1, .int 3], .tup [.int 3, .int 0]] s (okTb_ok 2 _ rfl) (by omega)
  have n2 := fun s => rt 2 [.tup [.int 0, .int 0], .tup [.int 1, .int 0], .tup [.int 1, .int 2], .tup [.int 1, .int 3]] s (okTb_ok 2 _ rfl) (by omega)
  have n3 := fun s => rl 2 [.tup [.int 0, .int 1, .int 2, .bl false], .tup [.int 1, .int 2, .int 1, .bl false], .tup [.int 2, .int 3, .int 2, .bl false], .tup [.int 2, .int 1, .int (-3), .bl true]] s (okTb_ok 2 _ rfl) (by omega)
  have n4 := fun s => rl 2 [.tup [.int 0, .int 1, .int 4, .bl false], .tup [.int 3, .int 2, .int (-4), .bl true]] s (okTb_ok 2 _ rfl) (by omega)
  have n5 := fun s => rl 2 [.tup [.int 0, .int 1, .int 4, .bl true]] s (okTb_ok 2 _ rfl) (by omega)
  have q : okD (.lst [.bl true, .bl true, .bl false]) = true := rfl
  simp [F1, F2, R1, R2, R3, G1, G2', G3, n1, n2, n3, n4, n5, dAdd_ll, dEq, q, fz]
end G

end
section
namespace G
open PySem PySem.Spec L2
open PyProof.Rows (envOfC)
def top (i : Nat) : Stmt := PySem.Challenge.pw_cuesuntold_k04_whole_forms_rows_and_ring.main.body.getD i (.Pass ⟨0, 0, 0, 0⟩)
def tfs : List (He.Defn × Str) := [(("_law_rings_right", none), "_law_rings_right.<locals>.<lambda>"), (("law", none), "law.<locals>.<lambda>")]
instance : Tb := ⟨tabT tfs⟩
abbrev s__law_told : Stmt := top 62
theorem sc__law_told : FnScope ["call"] ["call"] (defScope s__law_told) := ⟨rfl, rfl, rfl, by decide +kernel, rfl, by decide +kernel, by decide +kernel⟩
abbrev s_f_is_from : Stmt := top 7
abbrev N_f_is_from : List Str := ["value", "low", "high"]
abbrev P_f_is_from : List Str := ["value", "low", "high"]
theorem sc_f_is_from : FnScope N_f_is_from P_f_is_from (defScope s_f_is_from) := ⟨rfl, rfl, rfl, by decide +kernel, rfl, by decide +kernel, by decide +kernel⟩
abbrev s_f_lowest : Stmt := top 8
abbrev N_f_lowest : List Str := ["top", "below", "one", "other"]
abbrev P_f_lowest : List Str := ["top", "below"]
theorem sc_f_lowest : FnScope N_f_lowest P_f_lowest (defScope s_f_lowest) := ⟨rfl, rfl, rfl, by decide +kernel, rfl, by decide +kernel, by decide +kernel⟩
abbrev s_f_is_gap : Stmt := top 9
abbrev N_f_is_gap : List Str := ["cues", "value", "part"]
abbrev P_f_is_gap : List Str := ["cues", "value"]
theorem sc_f_is_gap : FnScope N_f_is_gap P_f_is_gap (defScope s_f_is_gap) := ⟨rfl, rfl, rfl, by decide +kernel, rfl, by decide +kernel, by decide +kernel⟩
abbrev s_f_is_good_book : Stmt := top 10
abbrev N_f_is_good_book : List Str := ["value", "fact"]
abbrev P_f_is_good_book : List Str := ["value"]
theorem sc_f_is_good_book : FnScope N_f_is_good_book P_f_is_good_book (defScope s_f_is_good_book) := ⟨rfl, rfl, rfl, by decide +kernel, rfl, by decide +kernel, by decide +kernel⟩
abbrev s_f_is_step : Stmt := top 11
abbrev N_f_is_step : List Str := ["cues", "value"]
abbrev P_f_is_step : List Str := ["cues", "value"]
theorem sc_f_is_step : FnScope N_f_is_step P_f_is_step (defScope s_f_is_step) := ⟨rfl, rfl, rfl, by decide +kernel, rfl, by decide +kernel, by decide +kernel⟩
abbrev s_f_is_good_script : Stmt := top 12
abbrev N_f_is_good_script : List Str := ["cues", "value", "step"]
abbrev P_f_is_good_script : List Str := ["cues", "value"]
theorem sc_f_is_good_script : FnScope N_f_is_good_script P_f_is_good_script (defScope s_f_is_good_script) := ⟨rfl, rfl, rfl, by decide +kernel, rfl, by decide +kernel, by decide +kernel⟩
abbrev s_f_need_book : Stmt := top 13
abbrev N_f_need_book : List Str := ["value"]
abbrev P_f_need_book : List Str := ["value"]
theorem sc_f_need_book : FnScope N_f_need_book P_f_need_book (defScope s_f_need_book) := ⟨rfl, rfl, rfl, by decide +kernel, rfl, by decide +kernel, by decide +kernel⟩
abbrev s_f_need_script : Stmt := top 14
abbrev N_f_need_script : List Str := ["cues", "value"]
abbrev P_f_need_script : List Str := ["cues", "value"]
theorem sc_f_need_script : FnScope N_f_need_script P_f_need_script (defScope s_f_need_script) := ⟨rfl, rfl, rfl, by decide +kernel, rfl, by decide +kernel, by decide +kernel⟩
abbrev s_f_weighed : Stmt := top 16
abbrev N_f_weighed : List Str := ["rows", "wide", "row"]
abbrev P_f_weighed : List Str := ["rows", "wide"]
theorem sc_f_weighed : FnScope N_f_weighed P_f_weighed (defScope s_f_weighed) := ⟨rfl, rfl, rfl, by decide +kernel, rfl, by decide +kernel, by decide +kernel⟩
abbrev s_f_risen : Stmt := top 17
abbrev N_f_risen : List Str := ["triples", "wide", "heights", "last", "rising", "turn", "number", "triple", "one", "other", "by"]
abbrev P_f_risen : List Str := ["triples", "wide"]
theorem sc_f_risen : FnScope N_f_risen P_f_risen (defScope s_f_risen) := ⟨rfl, rfl, rfl, by decide +kernel, rfl, by decide +kernel, by decide +kernel⟩
abbrev s_f_ring_by : Stmt := top 18
abbrev N_f_ring_by : List Str := ["triples", "wide", "found", "rising", "last", "at", "turn", "ring", "here"]
abbrev P_f_ring_by : List Str := ["triples", "wide", "found"]
theorem sc_f_ring_by : FnScope N_f_ring_by P_f_ring_by (defScope s_f_ring_by) := ⟨rfl, rfl, rfl, by decide +kernel, rfl, by decide +kernel, by decide +kernel⟩
abbrev s_f_lone_ring : Stmt := top 19
abbrev N_f_lone_ring : List Str := ["rows", "number", "row"]
abbrev P_f_lone_ring : List Str := ["rows"]
theorem sc_f_lone_ring : FnScope N_f_lone_ring P_f_lone_ring (defScope s_f_lone_ring) := ⟨rfl, rfl, rfl, by decide +kernel, rfl, by decide +kernel, by decide +kernel⟩
abbrev s_f_solved : Stmt := top 20
abbrev N_f_solved : List Str := ["rows", "wide", "triples", "heights", "found", "height"]
abbrev P_f_solved : List Str := ["rows", "wide"]
theorem sc_f_solved : FnScope N_f_solved P_f_solved (defScope s_f_solved) := ⟨rfl, rfl, rfl, by decide +kernel, rfl, by decide +kernel, by decide +kernel⟩
abbrev s_f_can_be : Stmt := top 21
abbrev N_f_can_be : List Str := ["rows", "wide"]
abbrev P_f_can_be : List Str := ["rows", "wide"]
theorem sc_f_can_be : FnScope N_f_can_be P_f_can_be (defScope s_f_can_be) := ⟨rfl, rfl, rfl, by decide +kernel, rfl, by decide +kernel, by decide +kernel⟩
abbrev s_f_tests_of : Stmt := top 23
abbrev N_f_tests_of : List Str := ["cues", "step", "word", "number", "every", "found", "cue"]
abbrev P_f_tests_of : List Str := ["cues", "step"]
theorem sc_f_tests_of : FnScope N_f_tests_of P_f_tests_of (defScope s_f_tests_of) := ⟨rfl, rfl, rfl, by decide +kernel, rfl, by decide +kernel, by decide +kernel⟩
abbrev s_f_more_form : Stmt := top 27
abbrev N_f_more_form : List Str := ["form", "by"]
abbrev P_f_more_form : List Str := ["form", "by"]
theorem sc_f_more_form : FnScope N_f_more_form P_f_more_form (defScope s_f_more_form) := ⟨rfl, rfl, rfl, by decide +kernel, rfl, by decide +kernel, by decide +kernel⟩
abbrev s_f_shifted : Stmt := top 24
abbrev N_f_shifted : List Str := ["values", "step", "added", "at", "one"]
abbrev P_f_shifted : List Str := ["values", "step", "added"]
theorem sc_f_shifted : FnScope N_f_shifted P_f_shifted (defScope s_f_shifted) := ⟨rfl, rfl, rfl, by decide +kernel, rfl, by decide +kernel, by decide +kernel⟩
abbrev s_f_put : Stmt := top 25
abbrev N_f_put : List Str := ["values", "at", "value"]
abbrev P_f_put : List Str := ["values", "at", "value"]
theorem sc_f_put : FnScope N_f_put P_f_put (defScope s_f_put) := ⟨rfl, rfl, rfl, by decide +kernel, rfl, by decide +kernel, by decide +kernel⟩
abbrev s_f_fact_rows : Stmt := top 28
abbrev N_f_fact_rows : List Str := ["book", "fact"]
abbrev P_f_fact_rows : List Str := ["book"]
theorem sc_f_fact_rows : FnScope N_f_fact_rows P_f_fact_rows (defScope s_f_fact_rows) := ⟨rfl, rfl, rfl, by decide +kernel, rfl, by decide +kernel, by decide +kernel⟩
abbrev s_f_test_row : Stmt := top 29
abbrev N_f_test_row : List Str := ["forms", "test", "truth", "one", "other"]
abbrev P_f_test_row : List Str := ["forms", "test", "truth"]
theorem sc_f_test_row : FnScope N_f_test_row P_f_test_row (defScope s_f_test_row) := ⟨rfl, rfl, rfl, by decide +kernel, rfl, by decide +kernel, by decide +kernel⟩
abbrev s_f_first_forms : Stmt := top 30
abbrev N_f_first_forms : List Str := ["cues", "number"]
abbrev P_f_first_forms : List Str := ["cues"]
theorem sc_f_first_forms : FnScope N_f_first_forms P_f_first_forms (defScope s_f_first_forms) := ⟨rfl, rfl, rfl, by decide +kernel, rfl, by decide +kernel, by decide +kernel⟩
abbrev s_f_truths_at : Stmt := top 31
abbrev N_f_truths_at : List Str := ["word", "told"]
abbrev P_f_truths_at : List Str := ["word", "told"]
theorem sc_f_truths_at : FnScope N_f_truths_at P_f_truths_at (defScope s_f_truths_at) := ⟨rfl, rfl, rfl, by decide +kernel, rfl, by decide +kernel, by decide +kernel⟩
abbrev s_f_branches : Stmt := top 32
abbrev N_f_branches : List Str := ["cues", "script", "lead", "rows", "told", "line", "step", "word", "forms", "known", "test", "later", "truth", "row", "made", "behind"]
abbrev P_f_branches : List Str := ["cues", "script", "lead", "rows", "told"]
theorem sc_f_branches : FnScope N_f_branches P_f_branches (defScope s_f_branches) := ⟨rfl, rfl, rfl, by decide +kernel, rfl, by decide +kernel, by decide +kernel⟩
abbrev s_f_run_by : Stmt := top 33
abbrev N_f_run_by : List Str := ["book", "script", "word"]
abbrev P_f_run_by : List Str := ["book", "script", "word"]
theorem sc_f_run_by : FnScope N_f_run_by P_f_run_by (defScope s_f_run_by) := ⟨rfl, rfl, rfl, by decide +kernel, rfl, by decide +kernel, by decide +kernel⟩
abbrev s_f_need_word : Stmt := top 34
abbrev N_f_need_word : List Str := ["book", "script", "word", "many", "step", "truth"]
abbrev P_f_need_word : List Str := ["book", "script", "word"]
theorem sc_f_need_word : FnScope N_f_need_word P_f_need_word (defScope s_f_need_word) := ⟨rfl, rfl, rfl, by decide +kernel, rfl, by decide +kernel, by decide +kernel⟩
abbrev s_f_forms : Stmt := top 35
abbrev N_f_forms : List Str := ["book", "script", "word"]
abbrev P_f_forms : List Str := ["book", "script", "word"]
theorem sc_f_forms : FnScope N_f_forms P_f_forms (defScope s_f_forms) := ⟨rfl, rfl, rfl, by decide +kernel, rfl, by decide +kernel, by decide +kernel⟩
abbrev s_f_rows : Stmt := top 36
abbrev N_f_rows : List Str := ["book", "script", "word"]
abbrev P_f_rows : List Str := ["book", "script", "word"]
theorem sc_f_rows : FnScope N_f_rows P_f_rows (defScope s_f_rows) := ⟨rfl, rfl, rfl, by decide +kernel, rfl, by decide +kernel, by decide +kernel⟩
abbrev s_f_is_round : Stmt := top 38
abbrev N_f_is_round : List Str := ["rows", "value", "number", "one", "other"]
abbrev P_f_is_round : List Str := ["rows", "value"]
theorem sc_f_is_round : FnScope N_f_is_round P_f_is_round (defScope s_f_is_round) := ⟨rfl, rfl, rfl, by decide +kernel, rfl, by decide +kernel, by decide +kernel⟩
abbrev s_f_is_ring : Stmt := top 39
abbrev N_f_is_ring : List Str := ["book", "script", "word", "value", "rows", "by", "number"]
abbrev P_f_is_ring : List Str := ["book", "script", "word", "value"]
theorem sc_f_is_ring : FnScope N_f_is_ring P_f_is_ring (defScope s_f_is_ring) := ⟨rfl, rfl, rfl, by decide +kernel, rfl, by decide +kernel, by decide +kernel⟩
abbrev s_f__law_jar : Stmt := top 41
abbrev N_f__law_jar : List Str := ["script", "k", "cell"]
abbrev P_f__law_jar : List Str := ["script", "k"]
theorem sc_f__law_jar : FnScope N_f__law_jar P_f__law_jar (defScope s_f__law_jar) := ⟨rfl, rfl, rfl, by decide +kernel, rfl, by decide +kernel, by decide +kernel⟩
abbrev s_f__law_dip : Stmt := top 42
abbrev N_f__law_dip : List Str := ["jar", "wide", "found", "stirred"]
abbrev P_f__law_dip : List Str := ["jar", "wide"]
theorem sc_f__law_dip : FnScope N_f__law_dip P_f__law_dip (defScope s_f__law_dip) := ⟨rfl, rfl, rfl, by decide +kernel, rfl, by decide +kernel, by decide +kernel⟩
abbrev s_f__law_any : Stmt := top 43
abbrev N_f__law_any : List Str := ["jar", "things"]
abbrev P_f__law_any : List Str := ["jar", "things"]
theorem sc_f__law_any : FnScope N_f__law_any P_f__law_any (defScope s_f__law_any) := ⟨rfl, rfl, rfl, by decide +kernel, rfl, by decide +kernel, by decide +kernel⟩
abbrev s_f__law_low : Stmt := top 44
abbrev N_f__law_low : List Str := ["top", "below", "mine", "yours"]
abbrev P_f__law_low : List Str := ["top", "below"]
theorem sc_f__law_low : FnScope N_f__law_low P_f__law_low (defScope s_f__law_low) := ⟨rfl, rfl, rfl, by decide +kernel, rfl, by decide +kernel, by decide +kernel⟩
abbrev s_f__law_plus : Stmt := top 45
abbrev N_f__law_plus : List Str := ["one_so", "two_so"]
abbrev P_f__law_plus : List Str := ["one_so", "two_so"]
theorem sc_f__law_plus : FnScope N_f__law_plus P_f__law_plus (defScope s_f__law_plus) := ⟨rfl, rfl, rfl, by decide +kernel, rfl, by decide +kernel, by decide +kernel⟩
abbrev s_f__law_moments : Stmt := top 46
abbrev N_f__law_moments : List Str := ["jar", "many", "found", "here", "below", "at"]
abbrev P_f__law_moments : List Str := ["jar", "many"]
theorem sc_f__law_moments : FnScope N_f__law_moments P_f__law_moments (defScope s_f__law_moments) := ⟨rfl, rfl, rfl, by decide +kernel, rfl, by decide +kernel, by decide +kernel⟩
abbrev s_f__law_gap : Stmt := top 47
abbrev N_f__law_gap : List Str := ["jar", "many", "told", "one_so", "two_so", "here", "by"]
abbrev P_f__law_gap : List Str := ["jar", "many", "told"]
theorem sc_f__law_gap : FnScope N_f__law_gap P_f__law_gap (defScope s_f__law_gap) := ⟨rfl, rfl, rfl, by decide +kernel, rfl, by decide +kernel, by decide +kernel⟩
abbrev s_f__law_book : Stmt := top 48
abbrev N_f__law_book : List Str := ["jar", "many", "most", "told", "turn"]
abbrev P_f__law_book : List Str := ["jar", "many", "most"]
theorem sc_f__law_book : FnScope N_f__law_book P_f__law_book (defScope s_f__law_book) := ⟨rfl, rfl, rfl, by decide +kernel, rfl, by decide +kernel, by decide +kernel⟩
abbrev s_f__law_step : Stmt := top 49
abbrev N_f__law_step : List Str := ["jar", "many", "kind"]
abbrev P_f__law_step : List Str := ["jar", "many"]
theorem sc_f__law_step : FnScope N_f__law_step P_f__law_step (defScope s_f__law_step) := ⟨rfl, rfl, rfl, by decide +kernel, rfl, by decide +kernel, by decide +kernel⟩
abbrev s_f__law_steps : Stmt := top 50
abbrev N_f__law_steps : List Str := ["jar", "many", "most", "turn"]
abbrev P_f__law_steps : List Str := ["jar", "many", "most"]
theorem sc_f__law_steps : FnScope N_f__law_steps P_f__law_steps (defScope s_f__law_steps) := ⟨rfl, rfl, rfl, by decide +kernel, rfl, by decide +kernel, by decide +kernel⟩
abbrev s_f__law_form : Stmt := top 51
abbrev N_f__law_form : List Str := ["form", "by"]
abbrev P_f__law_form : List Str := ["form", "by"]
theorem sc_f__law_form : FnScope N_f__law_form P_f__law_form (defScope s_f__law_form) := ⟨rfl, rfl, rfl, by decide +kernel, rfl, by decide +kernel, by decide +kernel⟩
abbrev s_f__law_tests : Stmt := top 52
abbrev N_f__law_tests : List Str := ["kind", "many", "every"]
abbrev P_f__law_tests : List Str := ["kind", "many"]
theorem sc_f__law_tests : FnScope N_f__law_tests P_f__law_tests (defScope s_f__law_tests) := ⟨rfl, rfl, rfl, by decide +kernel, rfl, by decide +kernel, by decide +kernel⟩
abbrev s_f__law_compared : Stmt := top 53
abbrev N_f__law_compared : List Str := ["step_so", "cue", "now", "kind", "by", "mine", "yours"]
abbrev P_f__law_compared : List Str := ["step_so", "cue", "now"]
theorem sc_f__law_compared : FnScope N_f__law_compared P_f__law_compared (defScope s_f__law_compared) := ⟨rfl, rfl, rfl, by decide +kernel, rfl, by decide +kernel, by decide +kernel⟩
abbrev s_f__law_base : Stmt := top 54
abbrev N_f__law_base : List Str := ["facts_so", "fact"]
abbrev P_f__law_base : List Str := ["facts_so"]
theorem sc_f__law_base : FnScope N_f__law_base P_f__law_base (defScope s_f__law_base) := ⟨rfl, rfl, rfl, by decide +kernel, rfl, by decide +kernel, by decide +kernel⟩
abbrev s_f__law_shifted : Stmt := top 55
abbrev N_f__law_shifted : List Str := ["now", "step_so", "found", "at"]
abbrev P_f__law_shifted : List Str := ["now", "step_so"]
theorem sc_f__law_shifted : FnScope N_f__law_shifted P_f__law_shifted (defScope s_f__law_shifted) := ⟨rfl, rfl, rfl, by decide +kernel, rfl, by decide +kernel, by decide +kernel⟩
abbrev s_f__law_gone : Stmt := top 56
abbrev N_f__law_gone : List Str := ["many", "step_so", "cue", "now", "known", "late", "mine", "yours", "at", "new", "row"]
abbrev P_f__law_gone : List Str := ["many", "step_so", "cue", "now", "known", "late"]
theorem sc_f__law_gone : FnScope N_f__law_gone P_f__law_gone (defScope s_f__law_gone) := ⟨rfl, rfl, rfl, by decide +kernel, rfl, by decide +kernel, by decide +kernel⟩
abbrev s_f__law_first : Stmt := top 57
abbrev N_f__law_first : List Str := ["many", "at"]
abbrev P_f__law_first : List Str := ["many"]
theorem sc_f__law_first : FnScope N_f__law_first P_f__law_first (defScope s_f__law_first) := ⟨rfl, rfl, rfl, by decide +kernel, rfl, by decide +kernel, by decide +kernel⟩
abbrev s_f__law_led : Stmt := top 58
abbrev N_f__law_led : List Str := ["many", "facts_so", "steps", "word", "now", "known", "left", "step_so", "cue"]
abbrev P_f__law_led : List Str := ["many", "facts_so", "steps", "word"]
theorem sc_f__law_led : FnScope N_f__law_led P_f__law_led (defScope s_f__law_led) := ⟨rfl, rfl, rfl, by decide +kernel, rfl, by decide +kernel, by decide +kernel⟩
abbrev s_f__law_drawn_word : Stmt := top 59
abbrev N_f__law_drawn_word : List Str := ["jar", "many", "steps", "found", "step_so", "cue"]
abbrev P_f__law_drawn_word : List Str := ["jar", "many", "steps"]
theorem sc_f__law_drawn_word : FnScope N_f__law_drawn_word P_f__law_drawn_word (defScope s_f__law_drawn_word) := ⟨rfl, rfl, rfl, by decide +kernel, rfl, by decide +kernel, by decide +kernel⟩
abbrev s_f__law_drawn_ring : Stmt := top 60
abbrev N_f__law_drawn_ring : List Str := ["jar", "rows_so", "found", "turn", "some", "at"]
abbrev P_f__law_drawn_ring : List Str := ["jar", "rows_so"]
theorem sc_f__law_drawn_ring : FnScope N_f__law_drawn_ring P_f__law_drawn_ring (defScope s_f__law_drawn_ring) := ⟨rfl, rfl, rfl, by decide +kernel, rfl, by decide +kernel, by decide +kernel⟩
abbrev s_f__law_due : Stmt := top 61
abbrev N_f__law_due : List Str := ["rows_so", "value_so", "one_so", "two_so", "total_so", "at"]
abbrev P_f__law_due : List Str := ["rows_so", "value_so"]
theorem sc_f__law_due : FnScope N_f__law_due P_f__law_due (defScope s_f__law_due) := ⟨rfl, rfl, rfl, by decide +kernel, rfl, by decide +kernel, by decide +kernel⟩
abbrev s_f__law_rings_right : Stmt := top 63
abbrev N_f__law_rings_right : List Str := ["jar", "book_so", "steps", "word", "known", "turn", "ring_so", "due", "odd"]
abbrev P_f__law_rings_right : List Str := ["jar", "book_so", "steps", "word", "known"]
theorem sc_f__law_rings_right : FnScope N_f__law_rings_right P_f__law_rings_right (defScope s_f__law_rings_right) := ⟨rfl, rfl, rfl, by decide +kernel, rfl, by decide +kernel, by decide +kernel⟩
abbrev s_f_law : Stmt := top 64
abbrev N_f_law : List Str := ["script", "k", "jar", "turn", "many", "book_so", "steps", "word", "now", "known", "row", "odd", "late", "call", "near", "three", "found"]
abbrev P_f_law : List Str := ["script"]
theorem sc_f_law : FnScope N_f_law P_f_law (defScope s_f_law) := ⟨rfl, rfl, rfl, by decide +kernel, rfl, by decide +kernel, by decide +kernel⟩
structure Tx (K : PySem.W.Frag) (mg : Str → Option Value) (base : Heap) : Prop where
  d_is_from : ∃ f fd, FunD K "is_from" "is_from" (defArgs s_f_is_from) (defBody s_f_is_from) (defScope s_f_is_from) [] [] f fd ∧ mg "is_from" = some (.ref f)
  d_lowest : ∃ f fd, FunD K "lowest" "lowest" (defArgs s_f_lowest) (defBody s_f_lowest) (defScope s_f_lowest) [] [] f fd ∧ mg "lowest" = some (.ref f)
  d_is_gap : ∃ f fd, FunD K "is_gap" "is_gap" (defArgs s_f_is_gap) (defBody s_f_is_gap) (defScope s_f_is_gap) [] [] f fd ∧ mg "is_gap" = some (.ref f)
  d_is_good_book : ∃ f fd, FunD K "is_good_book" "is_good_book" (defArgs s_f_is_good_book) (defBody s_f_is_good_book) (defScope s_f_is_good_book) [] [] f fd ∧ mg "is_good_book" = some (.ref f)
  d_is_step : ∃ f fd, FunD K "is_step" "is_step" (defArgs s_f_is_step) (defBody s_f_is_step) (defScope s_f_is_step) [] [] f fd ∧ mg "is_step" = some (.ref f)
  d_is_good_script : ∃ f fd, FunD K "is_good_script" "is_good_script" (defArgs s_f_is_good_script) (defBody s_f_is_good_script) (defScope s_f_is_good_script) [] [] f fd ∧ mg "is_good_script" = some (.ref f)
  d_need_book : ∃ f fd, FunD K "need_book" "need_book" (defArgs s_f_need_book) (defBody s_f_need_book) (defScope s_f_need_book) [] [] f fd ∧ mg "need_book" = some (.ref f)
  d_need_script : ∃ f fd, FunD K "need_script" "need_script" (defArgs s_f_need_script) (defBody s_f_need_script) (defScope s_f_need_script) [] [] f fd ∧ mg "need_script" = some (.ref f)
  d_weighed : ∃ f fd, FunD K "weighed" "weighed" (defArgs s_f_weighed) (defBody s_f_weighed) (defScope s_f_weighed) [] [] f fd ∧ mg "weighed" = some (.ref f)
  d_risen : ∃ f fd, FunD K "risen" "risen" (defArgs s_f_risen) (defBody s_f_risen) (defScope s_f_risen) [] [] f fd ∧ mg "risen" = some (.ref f)
  d_ring_by : ∃ f fd, FunD K "ring_by" "ring_by" (defArgs s_f_ring_by) (defBody s_f_ring_by) (defScope s_f_ring_by) [] [] f fd ∧ mg "ring_by" = some (.ref f)
  d_lone_ring : ∃ f fd, FunD K "lone_ring" "lone_ring" (defArgs s_f_lone_ring) (defBody s_f_lone_ring) (defScope s_f_lone_ring) [] [] f fd ∧ mg "lone_ring" = some (.ref f)
  d_solved : ∃ f fd, FunD K "solved" "solved" (defArgs s_f_solved) (defBody s_f_solved) (defScope s_f_solved) [] [] f fd ∧ mg "solved" = some (.ref f)
  d_can_be : ∃ f fd, FunD K "can_be" "can_be" (defArgs s_f_can_be) (defBody s_f_can_be) (defScope s_f_can_be) [] [] f fd ∧ mg "can_be" = some (.ref f)
  d_tests_of : ∃ f fd, FunD K "tests_of" "tests_of" (defArgs s_f_tests_of) (defBody s_f_tests_of) (defScope s_f_tests_of) [] [] f fd ∧ mg "tests_of" = some (.ref f)
  d_more_form : ∃ f fd, FunD K "more_form" "more_form" (defArgs s_f_more_form) (defBody s_f_more_form) (defScope s_f_more_form) [] [] f fd ∧ mg "more_form" = some (.ref f)
  d_shifted : ∃ f fd, FunD K "shifted" "shifted" (defArgs s_f_shifted) (defBody s_f_shifted) (defScope s_f_shifted) [] [] f fd ∧ mg "shifted" = some (.ref f)
  d_put : ∃ f fd, FunD K "put" "put" (defArgs s_f_put) (defBody s_f_put) (defScope s_f_put) [] [] f fd ∧ mg "put" = some (.ref f)
  d_fact_rows : ∃ f fd, FunD K "fact_rows" "fact_rows" (defArgs s_f_fact_rows) (defBody s_f_fact_rows) (defScope s_f_fact_rows) [] [] f fd ∧ mg "fact_rows" = some (.ref f)
  d_test_row : ∃ f fd, FunD K "test_row" "test_row" (defArgs s_f_test_row) (defBody s_f_test_row) (defScope s_f_test_row) [] [] f fd ∧ mg "test_row" = some (.ref f)
  d_first_forms : ∃ f fd, FunD K "first_forms" "first_forms" (defArgs s_f_first_forms) (defBody s_f_first_forms) (defScope s_f_first_forms) [] [] f fd ∧ mg "first_forms" = some (.ref f)
  d_truths_at : ∃ f fd, FunD K "truths_at" "truths_at" (defArgs s_f_truths_at) (defBody s_f_truths_at) (defScope s_f_truths_at) [] [] f fd ∧ mg "truths_at" = some (.ref f)
  d_branches : ∃ f fd, FunD K "branches" "branches" (defArgs s_f_branches) (defBody s_f_branches) (defScope s_f_branches) [] [] f fd ∧ mg "branches" = some (.ref f)
  d_run_by : ∃ f fd, FunD K "run_by" "run_by" (defArgs s_f_run_by) (defBody s_f_run_by) (defScope s_f_run_by) [] [] f fd ∧ mg "run_by" = some (.ref f)
  d_need_word : ∃ f fd, FunD K "need_word" "need_word" (defArgs s_f_need_word) (defBody s_f_need_word) (defScope s_f_need_word) [] [] f fd ∧ mg "need_word" = some (.ref f)
  d_forms : ∃ f fd, FunD K "forms" "forms" (defArgs s_f_forms) (defBody s_f_forms) (defScope s_f_forms) [] [] f fd ∧ mg "forms" = some (.ref f)
  d_rows : ∃ f fd, FunD K "rows" "rows" (defArgs s_f_rows) (defBody s_f_rows) (defScope s_f_rows) [] [] f fd ∧ mg "rows" = some (.ref f)
  d_is_round : ∃ f fd, FunD K "is_round" "is_round" (defArgs s_f_is_round) (defBody s_f_is_round) (defScope s_f_is_round) [] [] f fd ∧ mg "is_round" = some (.ref f)
  d_is_ring : ∃ f fd, FunD K "is_ring" "is_ring" (defArgs s_f_is_ring) (defBody s_f_is_ring) (defScope s_f_is_ring) [] [] f fd ∧ mg "is_ring" = some (.ref f)
  d__law_jar : ∃ f fd, FunD K "_law_jar" "_law_jar" (defArgs s_f__law_jar) (defBody s_f__law_jar) (defScope s_f__law_jar) [] [] f fd ∧ mg "_law_jar" = some (.ref f)
  d__law_dip : ∃ f fd, FunD K "_law_dip" "_law_dip" (defArgs s_f__law_dip) (defBody s_f__law_dip) (defScope s_f__law_dip) [] [] f fd ∧ mg "_law_dip" = some (.ref f)
  d__law_any : ∃ f fd, FunD K "_law_any" "_law_any" (defArgs s_f__law_any) (defBody s_f__law_any) (defScope s_f__law_any) [] [] f fd ∧ mg "_law_any" = some (.ref f)
  d__law_low : ∃ f fd, FunD K "_law_low" "_law_low" (defArgs s_f__law_low) (defBody s_f__law_low) (defScope s_f__law_low) [] [] f fd ∧ mg "_law_low" = some (.ref f)
  d__law_plus : ∃ f fd, FunD K "_law_plus" "_law_plus" (defArgs s_f__law_plus) (defBody s_f__law_plus) (defScope s_f__law_plus) [] [] f fd ∧ mg "_law_plus" = some (.ref f)
  d__law_moments : ∃ f fd, FunD K "_law_moments" "_law_moments" (defArgs s_f__law_moments) (defBody s_f__law_moments) (defScope s_f__law_moments) [] [] f fd ∧ mg "_law_moments" = some (.ref f)
  d__law_gap : ∃ f fd, FunD K "_law_gap" "_law_gap" (defArgs s_f__law_gap) (defBody s_f__law_gap) (defScope s_f__law_gap) [] [] f fd ∧ mg "_law_gap" = some (.ref f)
  d__law_book : ∃ f fd, FunD K "_law_book" "_law_book" (defArgs s_f__law_book) (defBody s_f__law_book) (defScope s_f__law_book) [] [] f fd ∧ mg "_law_book" = some (.ref f)
  d__law_step : ∃ f fd, FunD K "_law_step" "_law_step" (defArgs s_f__law_step) (defBody s_f__law_step) (defScope s_f__law_step) [] [] f fd ∧ mg "_law_step" = some (.ref f)
  d__law_steps : ∃ f fd, FunD K "_law_steps" "_law_steps" (defArgs s_f__law_steps) (defBody s_f__law_steps) (defScope s_f__law_steps) [] [] f fd ∧ mg "_law_steps" = some (.ref f)
  d__law_form : ∃ f fd, FunD K "_law_form" "_law_form" (defArgs s_f__law_form) (defBody s_f__law_form) (defScope s_f__law_form) [] [] f fd ∧ mg "_law_form" = some (.ref f)
  d__law_tests : ∃ f fd, FunD K "_law_tests" "_law_tests" (defArgs s_f__law_tests) (defBody s_f__law_tests) (defScope s_f__law_tests) [] [] f fd ∧ mg "_law_tests" = some (.ref f)
  d__law_compared : ∃ f fd, FunD K "_law_compared" "_law_compared" (defArgs s_f__law_compared) (defBody s_f__law_compared) (defScope s_f__law_compared) [] [] f fd ∧ mg "_law_compared" = some (.ref f)
  d__law_base : ∃ f fd, FunD K "_law_base" "_law_base" (defArgs s_f__law_base) (defBody s_f__law_base) (defScope s_f__law_base) [] [] f fd ∧ mg "_law_base" = some (.ref f)
  d__law_shifted : ∃ f fd, FunD K "_law_shifted" "_law_shifted" (defArgs s_f__law_shifted) (defBody s_f__law_shifted) (defScope s_f__law_shifted) [] [] f fd ∧ mg "_law_shifted" = some (.ref f)
  d__law_gone : ∃ f fd, FunD K "_law_gone" "_law_gone" (defArgs s_f__law_gone) (defBody s_f__law_gone) (defScope s_f__law_gone) [] [] f fd ∧ mg "_law_gone" = some (.ref f)
  d__law_first : ∃ f fd, FunD K "_law_first" "_law_first" (defArgs s_f__law_first) (defBody s_f__law_first) (defScope s_f__law_first) [] [] f fd ∧ mg "_law_first" = some (.ref f)
  d__law_led : ∃ f fd, FunD K "_law_led" "_law_led" (defArgs s_f__law_led) (defBody s_f__law_led) (defScope s_f__law_led) [] [] f fd ∧ mg "_law_led" = some (.ref f)
  d__law_drawn_word : ∃ f fd, FunD K "_law_drawn_word" "_law_drawn_word" (defArgs s_f__law_drawn_word) (defBody s_f__law_drawn_word) (defScope s_f__law_drawn_word) [] [] f fd ∧ mg "_law_drawn_word" = some (.ref f)
  d__law_drawn_ring : ∃ f fd, FunD K "_law_drawn_ring" "_law_drawn_ring" (defArgs s_f__law_drawn_ring) (defBody s_f__law_drawn_ring) (defScope s_f__law_drawn_ring) [] [] f fd ∧ mg "_law_drawn_ring" = some (.ref f)
  d__law_due : ∃ f fd, FunD K "_law_due" "_law_due" (defArgs s_f__law_due) (defBody s_f__law_due) (defScope s_f__law_due) [] [] f fd ∧ mg "_law_due" = some (.ref f)
  d__law_rings_right : ∃ f fd, FunD K "_law_rings_right" "_law_rings_right" (defArgs s_f__law_rings_right) (defBody s_f__law_rings_right) (defScope s_f__law_rings_right) [] [] f fd ∧ mg "_law_rings_right" = some (.ref f)
  d_law : ∃ f fd, FunD K "law" "law" (defArgs s_f_law) (defBody s_f_law) (defScope s_f_law) [] [] f fd ∧ mg "law" = some (.ref f)
  g_is_from : mg "is_from" = some (.ref (He.ga K "is_from"))
  g_lowest : mg "lowest" = some (.ref (He.ga K "lowest"))
  g_is_gap : mg "is_gap" = some (.ref (He.ga K "is_gap"))
  g_is_good_book : mg "is_good_book" = some (.ref (He.ga K "is_good_book"))
  g_is_step : mg "is_step" = some (.ref (He.ga K "is_step"))
  g_is_good_script : mg "is_good_script" = some (.ref (He.ga K "is_good_script"))
  g_need_book : mg "need_book" = some (.ref (He.ga K "need_book"))
  g_need_script : mg "need_script" = some (.ref (He.ga K "need_script"))
  g_weighed : mg "weighed" = some (.ref (He.ga K "weighed"))
  g_risen : mg "risen" = some (.ref (He.ga K "risen"))
  g_ring_by : mg "ring_by" = some (.ref (He.ga K "ring_by"))
  g_lone_ring : mg "lone_ring" = some (.ref (He.ga K "lone_ring"))
  g_solved : mg "solved" = some (.ref (He.ga K "solved"))
  g_can_be : mg "can_be" = some (.ref (He.ga K "can_be"))
  g_tests_of : mg "tests_of" = some (.ref (He.ga K "tests_of"))
  g_more_form : mg "more_form" = some (.ref (He.ga K "more_form"))
  g_shifted : mg "shifted" = some (.ref (He.ga K "shifted"))
  g_put : mg "put" = some (.ref (He.ga K "put"))
  g_fact_rows : mg "fact_rows" = some (.ref (He.ga K "fact_rows"))
  g_test_row : mg "test_row" = some (.ref (He.ga K "test_row"))
  g_first_forms : mg "first_forms" = some (.ref (He.ga K "first_forms"))
  g_truths_at : mg "truths_at" = some (.ref (He.ga K "truths_at"))
  g_branches : mg "branches" = some (.ref (He.ga K "branches"))
  g_run_by : mg "run_by" = some (.ref (He.ga K "run_by"))
  g_need_word : mg "need_word" = some (.ref (He.ga K "need_word"))
  g_forms : mg "forms" = some (.ref (He.ga K "forms"))
  g_rows : mg "rows" = some (.ref (He.ga K "rows"))
  g_is_round : mg "is_round" = some (.ref (He.ga K "is_round"))
  g_is_ring : mg "is_ring" = some (.ref (He.ga K "is_ring"))
  g__law_jar : mg "_law_jar" = some (.ref (He.ga K "_law_jar"))
  g__law_dip : mg "_law_dip" = some (.ref (He.ga K "_law_dip"))
  g__law_any : mg "_law_any" = some (.ref (He.ga K "_law_any"))
  g__law_low : mg "_law_low" = some (.ref (He.ga K "_law_low"))
  g__law_plus : mg "_law_plus" = some (.ref (He.ga K "_law_plus"))
  g__law_moments : mg "_law_moments" = some (.ref (He.ga K "_law_moments"))
  g__law_gap : mg "_law_gap" = some (.ref (He.ga K "_law_gap"))
  g__law_book : mg "_law_book" = some (.ref (He.ga K "_law_book"))
  g__law_step : mg "_law_step" = some (.ref (He.ga K "_law_step"))
  g__law_steps : mg "_law_steps" = some (.ref (He.ga K "_law_steps"))
  g__law_form : mg "_law_form" = some (.ref (He.ga K "_law_form"))
  g__law_tests : mg "_law_tests" = some (.ref (He.ga K "_law_tests"))
  g__law_compared : mg "_law_compared" = some (.ref (He.ga K "_law_compared"))
  g__law_base : mg "_law_base" = some (.ref (He.ga K "_law_base"))
  g__law_shifted : mg "_law_shifted" = some (.ref (He.ga K "_law_shifted"))
  g__law_gone : mg "_law_gone" = some (.ref (He.ga K "_law_gone"))
  g__law_first : mg "_law_first" = some (.ref (He.ga K "_law_first"))
  g__law_led : mg "_law_led" = some (.ref (He.ga K "_law_led"))
  g__law_drawn_word : mg "_law_drawn_word" = some (.ref (He.ga K "_law_drawn_word"))
  g__law_drawn_ring : mg "_law_drawn_ring" = some (.ref (He.ga K "_law_drawn_ring"))
  g__law_due : mg "_law_due" = some (.ref (He.ga K "_law_due"))
  g__law_rings_right : mg "_law_rings_right" = some (.ref (He.ga K "_law_rings_right"))
  g_law : mg "law" = some (.ref (He.ga K "law"))
  g_InvalidBook : mg "InvalidBook" = some (.ref (He.ga K "InvalidBook"))
  e_InvalidBook : PySem.W.excIn K (He.ga K "InvalidBook") He.veBase "ValueError.__new__" = true ∧ PySem.W.keepIn K (.ref (He.ga K "InvalidBook")) = true ∧ PySem.W.subIn K (.ref (He.ga K "InvalidBook")) (.type "BaseException") = some true ∧ PySem.W.typeIn K (.ref (He.ga K "InvalidBook")) = some (.type "type")
  g_InvalidRing : mg "InvalidRing" = some (.ref (He.ga K "InvalidRing"))
  e_InvalidRing : PySem.W.excIn K (He.ga K "InvalidRing") He.veBase "ValueError.__new__" = true ∧ PySem.W.keepIn K (.ref (He.ga K "InvalidRing")) = true ∧ PySem.W.subIn K (.ref (He.ga K "InvalidRing")) (.type "BaseException") = some true ∧ PySem.W.typeIn K (.ref (He.ga K "InvalidRing")) = some (.type "type")
  g_InvalidScript : mg "InvalidScript" = some (.ref (He.ga K "InvalidScript"))
  e_InvalidScript : PySem.W.excIn K (He.ga K "InvalidScript") He.veBase "ValueError.__new__" = true ∧ PySem.W.keepIn K (.ref (He.ga K "InvalidScript")) = true ∧ PySem.W.subIn K (.ref (He.ga K "InvalidScript")) (.type "BaseException") = some true ∧ PySem.W.typeIn K (.ref (He.ga K "InvalidScript")) = some (.type "type")
  g_InvalidWord : mg "InvalidWord" = some (.ref (He.ga K "InvalidWord"))
  e_InvalidWord : PySem.W.excIn K (He.ga K "InvalidWord") He.veBase "ValueError.__new__" = true ∧ PySem.W.keepIn K (.ref (He.ga K "InvalidWord")) = true ∧ PySem.W.subIn K (.ref (He.ga K "InvalidWord")) (.type "BaseException") = some true ∧ PySem.W.typeIn K (.ref (He.ga K "InvalidWord")) = some (.type "type")
  d__law_told : ∃ f fd, FunD K "_law_told" "_law_told" (defArgs s__law_told) (defBody s__law_told) (defScope s__law_told) [] [] f fd ∧ mg "_law_told" = some (.ref f)
  c__law_told : Clss K mg kn__law_told hs__law_told (hs__law_told.map fun p => (He.ga K p.1, p.2))
  l__law_rings_right : ∃ f fd c P, FunD K "_law_rings_right" "_law_rings_right" (defArgs s_f__law_rings_right) (defBody s_f__law_rings_right) (defScope s_f__law_rings_right) [] [] f fd ∧ mg "_law_rings_right" = some (.ref f) ∧ LamAt K mg base "_law_rings_right.<locals>.<lambda>" fd.code c P
  b_abs : mg "abs" = none
  b_all : mg "all" = none
  b_any : mg "any" = none
  b_bool : mg "bool" = none
  b_enumerate : mg "enumerate" = none
  b_int : mg "int" = none
  b_isinstance : mg "isinstance" = none
  b_len : mg "len" = none
  b_list : mg "list" = none
  b_max : mg "max" = none
  b_min : mg "min" = none
  b_range : mg "range" = none
  b_str : mg "str" = none
  b_sum : mg "sum" = none
  b_tuple : mg "tuple" = none
  b_zip : mg "zip" = none
theorem giv__law_told {X : Cx} {q : Str} {g : Addr} {cdv : Value} (T : Tx X.K X.mg X.base) : LamX.GivesTo X ["call"] "_law_told" (defScope s__law_told) g cdv (defBody s__law_told) "call" q (TTx X.K (hs__law_told.map fun p => (He.ga X.K p.1, p.2)) none) :=
  tells_ret (fun s H => .cons ⟨rfl, rfl, .inl T.g_InvalidRing⟩ (fun _ _ _ _ _ _ _ => pss_one (ps_ret pe_str)) (.cons ⟨rfl, rfl, .inl T.g_InvalidWord⟩ (fun _ _ _ _ _ _ _ => pss_one (ps_ret pe_str)) (.nil))) (fun f => rfl)
section
variable {P : Program} {w : World} {K : PySem.W.Frag} {mg : Str → Option Value} {base : Heap}
theorem cal_f_is_from (T : Tx K mg base) : Cal P w K mg base 1 "is_from" 3 true f_is_from := by
  refine cal_of T.d_is_from (fun F => F.bindsN fun _ _ _ _ _ _ us hl => match us, hl with | [_, _, _], _ => rfl) fun {f fd} F => def_ok F sc_f_is_from rfl fun cdv A outer s H E hr => ?_
  have nd := sc_f_is_from.nd
  have hu := hr.units
  have hu5 := units5 hr
  have tk := takes_of (X := cxOf (L2.CX P w) P w K mg base N_f_is_from "is_from" (defScope s_f_is_from) f cdv A outer s H E) rfl rfl rfl rfl
  have hps := passes_of (X := cxOf (L2.CX P w) P w K mg base N_f_is_from "is_from" (defScope s_f_is_from) f cdv A outer s H E) rfl
  exact sss_one (ss_ret (se_and (se_callB call_isi ok_isi (by rfl) T.b_isinstance (by decide +kernel) (sa_cons (se_var (pv 0)) (sa_cons (se_ty (by rfl) T.b_int (by decide +kernel)) (sa_nil)))) (se_and (se_not (se_callB call_isi ok_isi (by rfl) T.b_isinstance (by decide +kernel) (sa_cons (se_var (pv 0)) (sa_cons (se_ty (by rfl) T.b_bool (by decide +kernel)) (sa_nil))))) (se_one (se_chain op_le op_le ok_le ok_le (se_var (pv 1)) (se_var (pv 0)) (se_var (pv 2)) (fun ha hb hc => pe_chain op_le op_le ha hb hc))))))
theorem cal_f_lowest (T : Tx K mg base) : Cal P w K mg base 1 "lowest" 2 true f_lowest := by
  refine cal_of T.d_lowest (fun F => F.bindsN fun _ _ _ _ _ _ us hl => match us, hl with | [_, _], _ => rfl) fun {f fd} F => def_ok F sc_f_lowest rfl fun cdv A outer s H E hr => ?_
  have nd := sc_f_lowest.nd
  have hu := hr.units
  have hu5 := units5 hr
  have tk := takes_of (X := cxOf (L2.CX P w) P w K mg base N_f_lowest "lowest" (defScope s_f_lowest) f cdv A outer s H E) rfl rfl rfl rfl
  have hps := passes_of (X := cxOf (L2.CX P w) P w K mg base N_f_lowest "lowest" (defScope s_f_lowest) f cdv A outer s H E) rfl
  exact sss_cons (ss_par0 (i := 2) (j := 3) rfl nd rfl rfl (by decide) rfl rfl (sa_cons (se_callB call_abs ok_abs (by rfl) T.b_abs (by decide +kernel) (sa_cons (se_var (pv 0)) (sa_nil))) (sa_cons (se_var (pv 1)) (sa_nil))) rfl) (sss_cons (ss_while hps (st_cmpA (op_neD hu) ok_ne (se_var (pv 3)) (se_int) (nomark _)) (sss_one (ss_par0 (i := 2) (j := 3) rfl nd rfl rfl (by decide) rfl rfl (sa_cons (se_var (pv 3)) (sa_cons (se_op op_mod ok_mod (se_var (pv 2)) (se_var (pv 3))) (sa_nil))) rfl))) (sss_one (ss_ret (se_tup (sa_cons (se_op op_fdivAll ok_fdiv (se_var (pv 0)) (se_var (pv 2))) (sa_cons (se_op op_fdivAll ok_fdiv (se_var (pv 1)) (se_var (pv 2))) (sa_nil)))))))
theorem cal_f_is_gap (T : Tx K mg base) : Cal P w K mg base 2 "is_gap" 2 true f_is_gap := by
  have c_is_from := cal_f_is_from (P := P) (w := w) (base := base) T
  refine cal_of T.d_is_gap (fun F => F.bindsN fun _ _ _ _ _ _ us hl => match us, hl with | [_, _], _ => rfl) fun {f fd} F => def_ok F sc_f_is_gap rfl fun cdv A outer s H E hr => ?_
  have nd := sc_f_is_gap.nd
  have hu := hr.units
  have hu5 := units5 hr
  have tk := takes_of (X := cxOf (L2.CX P w) P w K mg base N_f_is_gap "is_gap" (defScope s_f_is_gap) f cdv A outer s H E) rfl rfl rfl rfl
  have hps := passes_of (X := cxOf (L2.CX P w) P w K mg base N_f_is_gap "is_gap" (defScope s_f_is_gap) f cdv A outer s H E) rfl
  exact sss_cons (ss_if (SW.st (sw_or (st_not (st_val (se_callB call_isi ok_isi (by rfl) T.b_isinstance (by decide +kernel) (sa_cons (se_var (pv 1)) (sa_cons (se_ty (by rfl) T.b_tuple (by decide +kernel)) (sa_nil)))))) (sw_or1 (st_cmpA (op_neD hu) ok_ne (se_callB call_lenAll ok_len (by rfl) T.b_len PySem.boot_len (sa_cons (se_var (pv 1)) (sa_nil))) (se_int) (nomark _))))) (sss_one (ss_ret (se_bl))) (sss_nil)) (sss_cons (ss_if (SW.st (sw_or (st_not (st_val (se_callB (cr_all rfl) ok_all (by rfl) T.b_all (by decide +kernel) (sa_cons (se_lc rfl nd (own := [("part", 2)]) (si_seq (se_sl (se_var (pv 1)) (so_none) (so_some (se_int)))) (blkOk_by (N := N_f_is_gap) (sc := defScope s_f_is_gap) (by decide +kernel)) (fun _ _ _ _ _ => sg_name (i := 2) nd rfl (.inl rfl)) (fun _ _ _ _ _ => pts_yes) (fun _ _ _ _ _ => se_call c_is_from (hr.mono (by first | decide | omega)) takes0 rfl (sa_cons (se_var (pv 2)) (sa_cons (se_int) (sa_cons (se_op op_sub ok_sub (se_op op_mulAll ok_mul (se_int) (se_var (pv 0))) (se_int)) (sa_nil)))))) (sa_nil))))) (sw_or1 (st_cmpA (op_eqD hu) ok_eq (se_ix (se_var (pv 1)) (se_int) (fun _ _ => rfl)) (se_ix (se_var (pv 1)) (se_int) (fun _ _ => rfl)) (nomark _))))) (sss_one (ss_ret (se_bl))) (sss_nil)) (sss_one (ss_ret (se_call c_is_from (hr.mono (by first | decide | omega)) tk rfl (sa_cons (se_ix (se_var (pv 1)) (se_int) (fun _ _ => rfl)) (sa_cons (se_un un_neg ok_neg (se_int)) (sa_cons (se_int) (sa_nil))))))))
theorem cal_f_is_good_book (T : Tx K mg base) : Cal P w K mg base 3 "is_good_book" 1 true f_is_good_book := by
  have c_is_from := cal_f_is_from (P := P) (w := w) (base := base) T
  have c_is_gap := cal_f_is_gap (P := P) (w := w) (base := base) T
  refine cal_of T.d_is_good_book (fun F => F.bindsN fun _ _ _ _ _ _ us hl => match us, hl with | [_], _ => rfl) fun {f fd} F => def_ok F sc_f_is_good_book rfl fun cdv A outer s H E hr => ?_
  have nd := sc_f_is_good_book.nd
  have hu := hr.units
  have hu5 := units5 hr
  have tk := takes_of (X := cxOf (L2.CX P w) P w K mg base N_f_is_good_book "is_good_book" (defScope s_f_is_good_book) f cdv A outer s H E) rfl rfl rfl rfl
  have hps := passes_of (X := cxOf (L2.CX P w) P w K mg base N_f_is_good_book "is_good_book" (defScope s_f_is_good_book) f cdv A outer s H E) rfl
  exact sss_cons (ss_if (SW.st (sw_or (st_not (st_val (se_callB call_isi ok_isi (by rfl) T.b_isinstance (by decide +kernel) (sa_cons (se_var (pv 0)) (sa_cons (se_ty (by rfl) T.b_tuple (by decide +kernel)) (sa_nil)))))) (sw_or (st_cmpA (op_neD hu) ok_ne (se_callB call_lenAll ok_len (by rfl) T.b_len PySem.boot_len (sa_cons (se_var (pv 0)) (sa_nil))) (se_int) (nomark _)) (sw_or1 (st_not (st_val (se_call c_is_from (hr.mono (by first | decide | omega)) tk rfl (sa_cons (se_ix (se_var (pv 0)) (se_int) (fun _ _ => rfl)) (sa_cons (se_int) (sa_cons (se_int) (sa_nil))))))))))) (sss_one (ss_ret (se_bl))) (sss_nil)) (sss_cons (ss_if (SW.st (sw_or (st_not (st_val (se_callB call_isi ok_isi (by rfl) T.b_isinstance (by decide +kernel) (sa_cons (se_ix (se_var (pv 0)) (se_int) (fun _ _ => rfl)) (sa_cons (se_ty (by rfl) T.b_tuple (by decide +kernel)) (sa_nil)))))) (sw_or1 (st_cmpA op_gt ok_gt (se_callB call_lenAll ok_len (by rfl) T.b_len PySem.boot_len (sa_cons (se_ix (se_var (pv 0)) (se_int) (fun _ _ => rfl)) (sa_nil))) (se_int) (nomark _))))) (sss_one (ss_ret (se_bl))) (sss_nil)) (sss_one (ss_ret (se_callB (cr_all rfl) ok_all (by rfl) T.b_all (by decide +kernel) (sa_cons (se_lc rfl nd (own := [("fact", 1)]) (si_seq (se_ix (se_var (pv 0)) (se_int) (fun _ _ => rfl))) (blkOk_by (N := N_f_is_good_book) (sc := defScope s_f_is_good_book) (by decide +kernel)) (fun _ _ _ _ _ => sg_name (i := 1) nd rfl (.inl rfl)) (fun _ _ _ _ _ => pts_yes) (fun _ _ _ _ _ => se_call c_is_gap (hr.mono (by first | decide | omega)) takes0 rfl (sa_cons (se_ix (se_var (pv 0)) (se_int) (fun _ _ => rfl)) (sa_cons (se_var (pv 1)) (sa_nil))))) (sa_nil))))))
theorem cal_f_is_step (T : Tx K mg base) : Cal P w K mg base 2 "is_step" 2 true f_is_step := by
  have c_is_from := cal_f_is_from (P := P) (w := w) (base := base) T
  refine cal_of T.d_is_step (fun F => F.bindsN fun _ _ _ _ _ _ us hl => match us, hl with | [_, _], _ => rfl) fun {f fd} F => def_ok F sc_f_is_step rfl fun cdv A outer s H E hr => ?_
  have nd := sc_f_is_step.nd
  have hu := hr.units
  have hu5 := units5 hr
  have tk := takes_of (X := cxOf (L2.CX P w) P w K mg base N_f_is_step "is_step" (defScope s_f_is_step) f cdv A outer s H E) rfl rfl rfl rfl
  have hps := passes_of (X := cxOf (L2.CX P w) P w K mg base N_f_is_step "is_step" (defScope s_f_is_step) f cdv A outer s H E) rfl
  exact sss_cons (ss_if (SW.st (sw_or (st_not (st_val (se_callB call_isi ok_isi (by rfl) T.b_isinstance (by decide +kernel) (sa_cons (se_var (pv 1)) (sa_cons (se_ty (by rfl) T.b_tuple (by decide +kernel)) (sa_nil)))))) (sw_or (st_cmpA (op_eqD hu) ok_eq (se_var (pv 1)) (se_tup (sa_nil)) (nomark _)) (sw_or1 (st_not (st_val (se_callB call_isi ok_isi (by rfl) T.b_isinstance (by decide +kernel) (sa_cons (se_ix (se_var (pv 1)) (se_int) (fun _ _ => rfl)) (sa_cons (se_ty (by rfl) T.b_str (by decide +kernel)) (sa_nil)))))))))) (sss_one (ss_ret (se_bl))) (sss_nil)) (sss_cons (ss_if (st_cmpA (op_eqD hu) ok_eq (se_ix (se_var (pv 1)) (se_int) (fun _ _ => rfl)) (se_str) (nomark _)) (sss_one (ss_ret (se_and (se_cmp (op_eqD hu) ok_eq (se_callB call_lenAll ok_len (by rfl) T.b_len PySem.boot_len (sa_cons (se_var (pv 1)) (sa_nil))) (se_int) (nomark _)) (se_and (se_call c_is_from (hr.mono (by first | decide | omega)) tk rfl (sa_cons (se_ix (se_var (pv 1)) (se_int) (fun _ _ => rfl)) (sa_cons (se_int) (sa_cons (se_op op_sub ok_sub (se_var (pv 0)) (se_int)) (sa_nil))))) (se_one (se_call c_is_from (hr.mono (by first | decide | omega)) tk rfl (sa_cons (se_ix (se_var (pv 1)) (se_int) (fun _ _ => rfl)) (sa_cons (se_un un_neg ok_neg (se_int)) (sa_cons (se_int) (sa_nil)))))))))) (sss_nil)) (sss_one (ss_ret (se_and (se_cmp (op_inAll hu5) ok_in (se_ix (se_var (pv 1)) (se_int) (fun _ _ => rfl)) (se_tup (sa_cons (se_str) (sa_cons (se_str) (sa_cons (se_str) (sa_cons (se_str) (sa_nil)))))) (by rfl)) (se_and (se_cmp (op_eqD hu) ok_eq (se_callB call_lenAll ok_len (by rfl) T.b_len PySem.boot_len (sa_cons (se_var (pv 1)) (sa_nil))) (se_int) (nomark _)) (se_one (se_call c_is_from (hr.mono (by first | decide | omega)) tk rfl (sa_cons (se_ix (se_var (pv 1)) (se_int) (fun _ _ => rfl)) (sa_cons (se_int) (sa_cons (se_int) (sa_nil)))))))))))
theorem cal_f_is_good_script (T : Tx K mg base) : Cal P w K mg base 3 "is_good_script" 2 true f_is_good_script := by
  have c_is_step := cal_f_is_step (P := P) (w := w) (base := base) T
  refine cal_of T.d_is_good_script (fun F => F.bindsN fun _ _ _ _ _ _ us hl => match us, hl with | [_, _], _ => rfl) fun {f fd} F => def_ok F sc_f_is_good_script rfl fun cdv A outer s H E hr => ?_
  have nd := sc_f_is_good_script.nd
  have hu := hr.units
  have hu5 := units5 hr
  have tk := takes_of (X := cxOf (L2.CX P w) P w K mg base N_f_is_good_script "is_good_script" (defScope s_f_is_good_script) f cdv A outer s H E) rfl rfl rfl rfl
  have hps := passes_of (X := cxOf (L2.CX P w) P w K mg base N_f_is_good_script "is_good_script" (defScope s_f_is_good_script) f cdv A outer s H E) rfl
  exact sss_one (ss_ret (se_and (se_callB call_isi ok_isi (by rfl) T.b_isinstance (by decide +kernel) (sa_cons (se_var (pv 1)) (sa_cons (se_ty (by rfl) T.b_tuple (by decide +kernel)) (sa_nil)))) (se_and (se_cmp op_le ok_le (se_callB call_lenAll ok_len (by rfl) T.b_len PySem.boot_len (sa_cons (se_var (pv 1)) (sa_nil))) (se_int) (nomark _)) (se_one (se_callB (cr_all rfl) ok_all (by rfl) T.b_all (by decide +kernel) (sa_cons (se_lc rfl nd (own := [("step", 2)]) (si_seq (se_var (pv 1))) (blkOk_by (N := N_f_is_good_script) (sc := defScope s_f_is_good_script) (by decide +kernel)) (fun _ _ _ _ _ => sg_name (i := 2) nd rfl (.inl rfl)) (fun _ _ _ _ _ => pts_yes) (fun _ _ _ _ _ => se_call c_is_step (hr.mono (by first | decide | omega)) takes0 rfl (sa_cons (se_var (pv 0)) (sa_cons (se_var (pv 2)) (sa_nil))))) (sa_nil)))))))
theorem cal_f_need_book (T : Tx K mg base) : Cal P w K mg base 4 "need_book" 1 false f_need_book := by
  have c_is_good_book := cal_f_is_good_book (P := P) (w := w) (base := base) T
  refine cal_of T.d_need_book (fun F => F.bindsN fun _ _ _ _ _ _ us hl => match us, hl with | [_], _ => rfl) fun {f fd} F => def_ok F sc_f_need_book rfl fun cdv A outer s H E hr => ?_
  have nd := sc_f_need_book.nd
  have hu := hr.units
  have hu5 := units5 hr
  have tk := takes_of (X := cxOf (L2.CX P w) P w K mg base N_f_need_book "need_book" (defScope s_f_need_book) f cdv A outer s H E) rfl rfl rfl rfl
  have hps := passes_of (X := cxOf (L2.CX P w) P w K mg base N_f_need_book "need_book" (defScope s_f_need_book) f cdv A outer s H E) rfl
  exact sss_one (ss_if (st_not (st_val (se_call c_is_good_book (hr.mono (by first | decide | omega)) tk rfl (sa_cons (se_var (pv 0)) (sa_nil))))) (sss_one (ss_raise rfl tk T.g_InvalidBook T.e_InvalidBook rfl)) (sss_nil))
theorem cal_f_need_script (T : Tx K mg base) : Cal P w K mg base 4 "need_script" 2 false f_need_script := by
  have c_is_good_script := cal_f_is_good_script (P := P) (w := w) (base := base) T
  refine cal_of T.d_need_script (fun F => F.bindsN fun _ _ _ _ _ _ us hl => match us, hl with | [_, _], _ => rfl) fun {f fd} F => def_ok F sc_f_need_script rfl fun cdv A outer s H E hr => ?_
  have nd := sc_f_need_script.nd
  have hu := hr.units
  have hu5 := units5 hr
  have tk := takes_of (X := cxOf (L2.CX P w) P w K mg base N_f_need_script "need_script" (defScope s_f_need_script) f cdv A outer s H E) rfl rfl rfl rfl
  have hps := passes_of (X := cxOf (L2.CX P w) P w K mg base N_f_need_script "need_script" (defScope s_f_need_script) f cdv A outer s H E) rfl
  exact sss_one (ss_if (st_not (st_val (se_call c_is_good_script (hr.mono (by first | decide | omega)) tk rfl (sa_cons (se_var (pv 0)) (sa_cons (se_var (pv 1)) (sa_nil)))))) (sss_one (ss_raise rfl tk T.g_InvalidScript T.e_InvalidScript rfl)) (sss_nil))
theorem cal_f_weighed (T : Tx K mg base) : Cal P w K mg base 1 "weighed" 2 true f_weighed := by
  refine cal_of T.d_weighed (fun F => F.bindsN fun _ _ _ _ _ _ us hl => match us, hl with | [_, _], _ => rfl) fun {f fd} F => def_ok F sc_f_weighed rfl fun cdv A outer s H E hr => ?_
  have nd := sc_f_weighed.nd
  have hu := hr.units
  have hu5 := units5 hr
  have tk := takes_of (X := cxOf (L2.CX P w) P w K mg base N_f_weighed "weighed" (defScope s_f_weighed) f cdv A outer s H E) rfl rfl rfl rfl
  have hps := passes_of (X := cxOf (L2.CX P w) P w K mg base N_f_weighed "weighed" (defScope s_f_weighed) f cdv A outer s H E) rfl
  exact sss_one (ss_ret (se_lc rfl nd (own := [("row", 2)]) (si_seq (se_var (pv 0))) (blkOk_by (N := N_f_weighed) (sc := defScope s_f_weighed) (by decide +kernel)) (fun _ _ _ _ _ => sg_name (i := 2) nd rfl (.inl rfl)) (fun _ _ _ _ _ => pts_yes) (fun _ _ _ _ _ => se_tup (sa_cons (se_ix (se_var (pv 2)) (se_int) (fun _ _ => rfl)) (sa_cons (se_ix (se_var (pv 2)) (se_int) (fun _ _ => rfl)) (sa_cons (se_op op_addAll ok_add (se_op op_mulAll ok_mul (se_ix (se_var (pv 2)) (se_int) (fun _ _ => rfl)) (se_op op_addAll ok_add (se_var (pv 1)) (se_int))) (se_callTy call_int1 ok_int (by rfl) T.b_int (by decide +kernel) (sa_cons (se_ix (se_var (pv 2)) (se_int) (fun _ _ => rfl)) (sa_nil)))) (sa_nil)))))))
theorem cal_f_risen (T : Tx K mg base) : Cal P w K mg base 1 "risen" 2 false f_risen := by
  refine cal_of T.d_risen (fun F => F.bindsN fun _ _ _ _ _ _ us hl => match us, hl with | [_, _], _ => rfl) fun {f fd} F => def_okC F sc_f_risen rfl fun cdv A outer s H E hr => ?_
  have nd := sc_f_risen.nd
  have hu := hr.units
  have hu5 := units5 hr
  have tk := takes_of (X := cxOf (L2.CX P w) P w K mg base N_f_risen "risen" (defScope s_f_risen) f cdv A outer s H E) rfl rfl rfl rfl
  have hps := passes_of (X := cxOf (L2.CX P w) P w K mg base N_f_risen "risen" (defScope s_f_risen) f cdv A outer s H E) rfl
  exact sss_cons (ss_par (i := 2) (j := 3) rfl nd rfl rfl (by decide) rfl rfl (sp_cel (se_op op_mulAll ok_mul (se_lst (sa_cons (se_int) (sa_nil))) (se_var (pv 1))) (sp_cel (se_op op_mulAll ok_mul (se_lst (sa_cons (se_non) (sa_nil))) (se_var (pv 1))) (sp_nil))) rfl) (sss_cons (ss_set (i := 4) nd rfl (.inl rfl) (se_non)) (sss_cons (ss_for hps rfl (si_range1 (by rfl) T.b_range (sa_cons (se_op op_addAll ok_add (se_var (pv 1)) (se_int)) (sa_nil))) (sg_name (i := 5) nd rfl (.inl rfl)) (sss_cons (ss_set (i := 4) nd rfl (.inl rfl) (se_non)) (sss_cons (ss_for hps rfl (si_enum (by rfl) T.b_enumerate (sa_cons (se_var (pv 0)) (sa_nil))) (sg_tup rfl (sgs_cons (sg_name (i := 6) nd rfl (.inl rfl)) (sgs_cons (sg_name (i := 7) nd rfl (.inl rfl)) (sgs_nil)))) (sss_cons (ss_asgG (se_var (pv 7)) (sgt_tup rfl (sgts_cons (sgt_name (i := 8) nd rfl (.inl rfl)) (sgts_cons (sgt_name (i := 9) nd rfl (.inl rfl)) (sgts_cons (sgt_name (i := 10) nd rfl (.inl rfl)) (sgts_nil)))))) (sss_one (ss_if (st_cmpA op_gt ok_gt (se_op op_addAll ok_add (se_ix (se_var (pv 2)) (se_var (pv 8)) (fun _ _ => rfl)) (se_var (pv 10))) (se_ix (se_var (pv 2)) (se_var (pv 9)) (fun _ _ => rfl)) (nomark _)) (sss_one (ss_asgG (se_tup (sa_cons (se_op op_addAll ok_add (se_ix (se_var (pv 2)) (se_var (pv 8)) (fun _ _ => rfl)) (se_var (pv 10))) (sa_cons (se_var (pv 6)) (sa_cons (se_var (pv 6)) (sa_nil))))) (sgt_tup rfl (sgts_cons (sgt_sub (W := W0) (se_var (pv 2)) (se_var (pv 9))) (sgts_cons (sgt_sub (W := W0) (se_var (pv 3)) (se_var (pv 9))) (sgts_cons (sgt_name (i := 4) nd rfl (.inl rfl)) (sgts_nil))))))) (sss_nil))))) (sss_one (ss_if (st_cmpA op_isN ok_isN (se_var (pv 4)) (se_non) (nomark _)) (sss_one (ss_ret (seF (se_tup (sa_cons (se_var (pv 2)) (sa_cons (se_non) (sa_nil))))))) (sss_nil)))))) (sss_one (ss_ret (seF (se_tup (sa_cons (se_non) (sa_cons (se_tup (sa_cons (se_var (pv 4)) (sa_cons (se_var (pv 3)) (sa_nil)))) (sa_nil)))))))))
theorem cal_f_ring_by (T : Tx K mg base) : Cal P w K mg base 1 "ring_by" 3 false f_ring_by := by
  refine cal_of T.d_ring_by (fun F => F.bindsN fun _ _ _ _ _ _ us hl => match us, hl with | [_, _, _], _ => rfl) fun {f fd} F => def_ok F sc_f_ring_by rfl fun cdv A outer s H E hr => ?_
  have nd := sc_f_ring_by.nd
  have hu := hr.units
  have hu5 := units5 hr
  have tk := takes_of (X := cxOf (L2.CX P w) P w K mg base N_f_ring_by "ring_by" (defScope s_f_ring_by) f cdv A outer s H E) rfl rfl rfl rfl
  have hps := passes_of (X := cxOf (L2.CX P w) P w K mg base N_f_ring_by "ring_by" (defScope s_f_ring_by) f cdv A outer s H E) rfl
  exact sss_cons (ss_asgG (se_var (pv 2)) (sgt_tup rfl (sgts_cons (sgt_name (i := 3) nd rfl (.inl rfl)) (sgts_cons (sgt_name (i := 4) nd rfl (.inl rfl)) (sgts_nil))))) (sss_cons (ss_set (i := 5) nd rfl (.inl rfl) (se_ix (se_ix (se_var (pv 0)) (se_var (pv 3)) (fun _ _ => rfl)) (se_int) (fun _ _ => rfl))) (sss_cons (ss_for hps rfl (si_range1 (by rfl) T.b_range (sa_cons (se_var (pv 1)) (sa_nil))) (sg_name (i := 6) nd rfl (.inl rfl)) (sss_one (ss_set (i := 5) nd rfl (.inl rfl) (se_ix (se_ix (se_var (pv 0)) (se_ix (se_var (pv 4)) (se_var (pv 5)) (fun _ _ => rfl)) (fun _ _ => rfl)) (se_int) (fun _ _ => rfl))))) (sss_cons (ss_par0 (i := 7) (j := 8) rfl nd rfl rfl (by decide) rfl rfl (sa_cons (se_tup (sa_cons (se_ix (se_var (pv 4)) (se_var (pv 5)) (fun _ _ => rfl)) (sa_nil))) (sa_cons (se_ix (se_ix (se_var (pv 0)) (se_ix (se_var (pv 4)) (se_var (pv 5)) (fun _ _ => rfl)) (fun _ _ => rfl)) (se_int) (fun _ _ => rfl)) (sa_nil))) rfl) (sss_cons (ss_while hps (st_cmpA (op_neD hu) ok_ne (se_var (pv 8)) (se_var (pv 5)) (nomark _)) (sss_one (ss_par0 (i := 7) (j := 8) rfl nd rfl rfl (by decide) rfl rfl (sa_cons (se_op op_addAll ok_add (se_tup (sa_cons (se_ix (se_var (pv 4)) (se_var (pv 8)) (fun _ _ => rfl)) (sa_nil))) (se_var (pv 7))) (sa_cons (se_ix (se_ix (se_var (pv 0)) (se_ix (se_var (pv 4)) (se_var (pv 8)) (fun _ _ => rfl)) (fun _ _ => rfl)) (se_int) (fun _ _ => rfl)) (sa_nil))) rfl))) (sss_one (ss_ret (se_var (pv 7))))))))
theorem cal_f_lone_ring (T : Tx K mg base) : Cal P w K mg base 1 "lone_ring" 1 true f_lone_ring := by
  refine cal_of T.d_lone_ring (fun F => F.bindsN fun _ _ _ _ _ _ us hl => match us, hl with | [_], _ => rfl) fun {f fd} F => def_ok F sc_f_lone_ring rfl fun cdv A outer s H E hr => ?_
  have nd := sc_f_lone_ring.nd
  have hu := hr.units
  have hu5 := units5 hr
  have tk := takes_of (X := cxOf (L2.CX P w) P w K mg base N_f_lone_ring "lone_ring" (defScope s_f_lone_ring) f cdv A outer s H E) rfl rfl rfl rfl
  have hps := passes_of (X := cxOf (L2.CX P w) P w K mg base N_f_lone_ring "lone_ring" (defScope s_f_lone_ring) f cdv A outer s H E) rfl
  exact sss_cons (ss_for hps rfl (si_enum (by rfl) T.b_enumerate (sa_cons (se_var (pv 0)) (sa_nil))) (sg_tup rfl (sgs_cons (sg_name (i := 1) nd rfl (.inl rfl)) (sgs_cons (sg_name (i := 2) nd rfl (.inl rfl)) (sgs_nil)))) (sss_one (ss_if (SW.st (sw_and (st_cmpA (op_eqD hu) ok_eq (se_ix (se_var (pv 2)) (se_int) (fun _ _ => rfl)) (se_ix (se_var (pv 2)) (se_int) (fun _ _ => rfl)) (nomark _)) (sw_and1 (SW.st (sw_or (st_cmpA op_gt ok_gt (se_ix (se_var (pv 2)) (se_int) (fun _ _ => rfl)) (se_int) (nomark _)) (sw_or1 (SW.st (sw_and (st_cmpA (op_eqD hu) ok_eq (se_ix (se_var (pv 2)) (se_int) (fun _ _ => rfl)) (se_int) (nomark _)) (sw_and1 (st_val (se_ix (se_var (pv 2)) (se_int) (fun _ _ => rfl)))))))))))) (sss_one (ss_ret (se_tup (sa_cons (se_var (pv 1)) (sa_nil))))) (sss_nil)))) (sss_one (ss_ret (se_non)))
theorem cal_f_solved (T : Tx K mg base) : Cal P w K mg base 2 "solved" 2 true f_solved := by
  have c_weighed := cal_f_weighed (P := P) (w := w) (base := base) T
  have c_risen := cal_f_risen (P := P) (w := w) (base := base) T
  have c_lone_ring := cal_f_lone_ring (P := P) (w := w) (base := base) T
  have c_ring_by := cal_f_ring_by (P := P) (w := w) (base := base) T
  have c_lowest := cal_f_lowest (P := P) (w := w) (base := base) T
  refine cal_of T.d_solved (fun F => F.bindsN fun _ _ _ _ _ _ us hl => match us, hl with | [_, _], _ => rfl) fun {f fd} F => def_ok F sc_f_solved rfl fun cdv A outer s H E hr => ?_
  have nd := sc_f_solved.nd
  have hu := hr.units
  have hu5 := units5 hr
  have tk := takes_of (X := cxOf (L2.CX P w) P w K mg base N_f_solved "solved" (defScope s_f_solved) f cdv A outer s H E) rfl rfl rfl rfl
  have hps := passes_of (X := cxOf (L2.CX P w) P w K mg base N_f_solved "solved" (defScope s_f_solved) f cdv A outer s H E) rfl
  exact sss_cons (ss_if (st_cmpA op_notN ok_notN (se_call c_lone_ring (hr.mono (by first | decide | omega)) tk rfl (sa_cons (se_var (pv 0)) (sa_nil))) (se_non) (nomark _)) (sss_one (ss_ret (se_tup (sa_cons (se_non) (sa_cons (se_call c_lone_ring (hr.mono (by first | decide | omega)) tk rfl (sa_cons (se_var (pv 0)) (sa_nil))) (sa_nil)))))) (sss_nil)) (sss_cons (ss_set (i := 2) nd rfl (.inl rfl) (se_call c_weighed (hr.mono (by first | decide | omega)) tk rfl (sa_cons (se_var (pv 0)) (sa_cons (se_var (pv 1)) (sa_nil))))) (sss_cons (ss_asgG (se_call c_risen (hr.mono (by first | decide | omega)) tk rfl (sa_cons (se_var (pv 2)) (sa_cons (se_var (pv 1)) (sa_nil)))) (sgt_tup rfl (sgts_cons (sgt_name (i := 3) nd rfl (.inl rfl)) (sgts_cons (sgt_name (i := 4) nd rfl (.inl rfl)) (sgts_nil))))) (sss_cons (ss_if (st_cmpA op_isN ok_isN (se_var (pv 3)) (se_non) (nomark _)) (sss_one (ss_ret (se_tup (sa_cons (se_non) (sa_cons (se_call c_ring_by (hr.mono (by first | decide | omega)) tk rfl (sa_cons (se_var (pv 2)) (sa_cons (se_var (pv 1)) (sa_cons (se_var (pv 4)) (sa_nil))))) (sa_nil)))))) (sss_nil)) (sss_one (ss_ret (se_tup (sa_cons (se_callTy call_tuple_of ok_tup (by rfl) T.b_tuple (by decide +kernel) (sa_cons (se_lc rfl nd (own := [("height", 5)]) (si_seq (se_var (pv 3))) (blkOk_by (N := N_f_solved) (sc := defScope s_f_solved) (by decide +kernel)) (fun _ _ _ _ _ => sg_name (i := 5) nd rfl (.inl rfl)) (fun _ _ _ _ _ => pts_yes) (fun _ _ _ _ _ => se_call c_lowest (hr.mono (by first | decide | omega)) takes0 rfl (sa_cons (se_var (pv 5)) (sa_cons (se_op op_addAll ok_add (se_var (pv 1)) (se_int)) (sa_nil))))) (sa_nil))) (sa_cons (se_non) (sa_nil)))))))))
theorem cal_f_can_be (T : Tx K mg base) : Cal P w K mg base 3 "can_be" 2 true f_can_be := by
  have c_solved := cal_f_solved (P := P) (w := w) (base := base) T
  refine cal_of T.d_can_be (fun F => F.bindsN fun _ _ _ _ _ _ us hl => match us, hl with | [_, _], _ => rfl) fun {f fd} F => def_ok F sc_f_can_be rfl fun cdv A outer s H E hr => ?_
  have nd := sc_f_can_be.nd
  have hu := hr.units
  have hu5 := units5 hr
  have tk := takes_of (X := cxOf (L2.CX P w) P w K mg base N_f_can_be "can_be" (defScope s_f_can_be) f cdv A outer s H E) rfl rfl rfl rfl
  have hps := passes_of (X := cxOf (L2.CX P w) P w K mg base N_f_can_be "can_be" (defScope s_f_can_be) f cdv A outer s H E) rfl
  exact sss_one (ss_ret (se_cmp op_notN ok_notN (se_ix (se_call c_solved (hr.mono (by first | decide | omega)) tk rfl (sa_cons (se_var (pv 0)) (sa_cons (se_var (pv 1)) (sa_nil)))) (se_int) (fun _ _ => rfl)) (se_non) (nomark _)))
theorem cal_f_tests_of (T : Tx K mg base) : Cal P w K mg base 1 "tests_of" 2 false f_tests_of := by
  refine cal_of T.d_tests_of (fun F => F.bindsN fun _ _ _ _ _ _ us hl => match us, hl with | [_, _], _ => rfl) fun {f fd} F => def_ok F sc_f_tests_of rfl fun cdv A outer s H E hr => ?_
  have nd := sc_f_tests_of.nd
  have hu := hr.units
  have hu5 := units5 hr
  have tk := takes_of (X := cxOf (L2.CX P w) P w K mg base N_f_tests_of "tests_of" (defScope s_f_tests_of) f cdv A outer s H E) rfl rfl rfl rfl
  have hps := passes_of (X := cxOf (L2.CX P w) P w K mg base N_f_tests_of "tests_of" (defScope s_f_tests_of) f cdv A outer s H E) rfl
  exact sss_cons (ss_asgG (se_tup (sa_cons (se_ix (se_var (pv 1)) (se_int) (fun _ _ => rfl)) (sa_cons (se_ix (se_var (pv 1)) (se_un un_neg ok_neg (se_int)) (fun _ _ => rfl)) (sa_nil)))) (sgt_tup rfl (sgts_cons (sgt_name (i := 2) nd rfl (.inl rfl)) (sgts_cons (sgt_name (i := 3) nd rfl (.inr rfl)) (sgts_nil))))) (sss_cons (ss_par0 (i := 4) (j := 5) rfl nd rfl rfl (by decide) rfl rfl (sa_cons (se_lstR1 rfl (by rfl) T.b_list (by rfl) T.b_range (se_var (pv 0))) (sa_cons (se_lst (sa_nil)) (sa_nil))) rfl) (sss_cons (ss_if (st_cmpA (op_eqD hu) ok_eq (se_var (pv 2)) (se_str) (nomark _)) (sss_one (ss_setLc (i := 5) rfl nd rfl rfl (sw_true rfl rfl rfl (by decide +kernel)) (own := [("cue", 6)]) (si_seq (se_sl (se_var (pv 4)) (so_some (se_int)) (so_none))) (blkOk_by (N := N_f_tests_of) (sc := defScope s_f_tests_of) (by decide +kernel)) (fun _ _ _ _ _ => sg_name (i := 6) nd rfl (.inl rfl)) (fun _ _ _ _ _ => pts_yes) (fun _ _ _ _ _ => se_tup (sa_cons (se_op op_sub ok_sub (se_op op_mulAll ok_mul (se_int) (se_var (pv 6))) (se_int)) (sa_cons (se_op op_mulAll ok_mul (se_int) (se_var (pv 6))) (sa_cons (se_var (pv 3)) (sa_cons (se_op op_mulAll ok_mul (se_int) (se_var (pv 6))) (sa_cons (se_op op_sub ok_sub (se_op op_mulAll ok_mul (se_int) (se_var (pv 6))) (se_int)) (sa_cons (se_var (pv 3)) (sa_nil)))))))))) (sss_nil)) (sss_cons (ss_if (st_cmpA (op_eqD hu) ok_eq (se_var (pv 2)) (se_str) (nomark _)) (sss_one (ss_setLc (i := 5) rfl nd rfl rfl (sw_true rfl rfl rfl (by decide +kernel)) (own := [("cue", 6)]) (si_seq (se_sl (se_var (pv 4)) (so_none) (so_some (se_un un_neg ok_neg (se_int))))) (blkOk_by (N := N_f_tests_of) (sc := defScope s_f_tests_of) (by decide +kernel)) (fun _ _ _ _ _ => sg_name (i := 6) nd rfl (.inl rfl)) (fun _ _ _ _ _ => pts_yes) (fun _ _ _ _ _ => se_tup (sa_cons (se_op op_addAll ok_add (se_op op_mulAll ok_mul (se_int) (se_var (pv 6))) (se_int)) (sa_cons (se_op op_addAll ok_add (se_op op_mulAll ok_mul (se_int) (se_var (pv 6))) (se_int)) (sa_cons (se_var (pv 3)) (sa_cons (se_op op_addAll ok_add (se_op op_mulAll ok_mul (se_int) (se_var (pv 6))) (se_int)) (sa_cons (se_op op_addAll ok_add (se_op op_mulAll ok_mul (se_int) (se_var (pv 6))) (se_int)) (sa_cons (se_op op_sub ok_sub (se_int) (se_var (pv 3))) (sa_nil)))))))))) (sss_nil)) (sss_cons (ss_if (st_cmpA (op_eqD hu) ok_eq (se_var (pv 2)) (se_str) (nomark _)) (sss_one (ss_setLc (i := 5) rfl nd rfl rfl (sw_true rfl rfl rfl (by decide +kernel)) (own := [("cue", 6)]) (si_seq (se_var (pv 4))) (blkOk_by (N := N_f_tests_of) (sc := defScope s_f_tests_of) (by decide +kernel)) (fun _ _ _ _ _ => sg_name (i := 6) nd rfl (.inl rfl)) (fun _ _ _ _ _ => pts_yes) (fun _ _ _ _ _ => se_tup (sa_cons (se_op op_mulAll ok_mul (se_int) (se_var (pv 6))) (sa_cons (se_op op_addAll ok_add (se_op op_mulAll ok_mul (se_int) (se_var (pv 6))) (se_int)) (sa_cons (se_var (pv 3)) (sa_cons (se_op op_addAll ok_add (se_op op_mulAll ok_mul (se_int) (se_var (pv 6))) (se_int)) (sa_cons (se_op op_mulAll ok_mul (se_int) (se_var (pv 6))) (sa_cons (se_var (pv 3)) (sa_nil)))))))))) (sss_nil)) (sss_cons (ss_if (st_cmpA (op_eqD hu) ok_eq (se_var (pv 2)) (se_str) (nomark _)) (sss_one (ss_setLc (i := 5) rfl nd rfl rfl (sw_true rfl rfl rfl (by decide +kernel)) (own := [("cue", 6)]) (si_seq (se_var (pv 4))) (blkOk_by (N := N_f_tests_of) (sc := defScope s_f_tests_of) (by decide +kernel)) (fun _ _ _ _ _ => sg_name (i := 6) nd rfl (.inl rfl)) (fun _ _ _ _ _ => pts_yes) (fun _ _ _ _ _ => se_tup (sa_cons (se_op op_addAll ok_add (se_op op_mulAll ok_mul (se_int) (se_var (pv 6))) (se_int)) (sa_cons (se_op op_mulAll ok_mul (se_int) (se_var (pv 6))) (sa_cons (se_op op_sub ok_sub (se_int) (se_var (pv 3))) (sa_cons (se_op op_addAll ok_add (se_op op_mulAll ok_mul (se_int) (se_var (pv 6))) (se_int)) (sa_cons (se_op op_mulAll ok_mul (se_int) (se_var (pv 6))) (sa_cons (se_var (pv 3)) (sa_nil)))))))))) (sss_nil)) (sss_one (ss_ret (se_var (pv 5)))))))))
theorem cal_f_more_form (T : Tx K mg base) : Cal P w K mg base 1 "more_form" 2 true f_more_form := by
  refine cal_of T.d_more_form (fun F => F.bindsN fun _ _ _ _ _ _ us hl => match us, hl with | [_, _], _ => rfl) fun {f fd} F => def_ok F sc_f_more_form rfl fun cdv A outer s H E hr => ?_
  have nd := sc_f_more_form.nd
  have hu := hr.units
  have hu5 := units5 hr
  have tk := takes_of (X := cxOf (L2.CX P w) P w K mg base N_f_more_form "more_form" (defScope s_f_more_form) f cdv A outer s H E) rfl rfl rfl rfl
  have hps := passes_of (X := cxOf (L2.CX P w) P w K mg base N_f_more_form "more_form" (defScope s_f_more_form) f cdv A outer s H E) rfl
  exact sss_one (ss_ret (se_tup (sa_cons (se_ix (se_var (pv 0)) (se_int) (fun _ _ => rfl)) (sa_cons (se_op op_addAll ok_add (se_ix (se_var (pv 0)) (se_int) (fun _ _ => rfl)) (se_var (pv 1))) (sa_nil)))))
theorem cal_f_shifted (T : Tx K mg base) : Cal P w K mg base 2 "shifted" 3 true f_shifted := by
  have c_more_form := cal_f_more_form (P := P) (w := w) (base := base) T
  refine cal_of T.d_shifted (fun F => F.bindsN fun _ _ _ _ _ _ us hl => match us, hl with | [_, _, _], _ => rfl) fun {f fd} F => def_ok F sc_f_shifted rfl fun cdv A outer s H E hr => ?_
  have nd := sc_f_shifted.nd
  have hu := hr.units
  have hu5 := units5 hr
  have tk := takes_of (X := cxOf (L2.CX P w) P w K mg base N_f_shifted "shifted" (defScope s_f_shifted) f cdv A outer s H E) rfl rfl rfl rfl
  have hps := passes_of (X := cxOf (L2.CX P w) P w K mg base N_f_shifted "shifted" (defScope s_f_shifted) f cdv A outer s H E) rfl
  exact sss_one (ss_ret (se_callTy call_tuple_of ok_tup (by rfl) T.b_tuple (by decide +kernel) (sa_cons (se_lc rfl nd (own := [("at", 3), ("one", 4)]) (si_enum (by rfl) T.b_enumerate (sa_cons (se_var (pv 0)) (sa_nil))) (blkOk_by (N := N_f_shifted) (sc := defScope s_f_shifted) (by decide +kernel)) (fun _ _ _ _ _ => sg_tup rfl (sgs_cons (sg_name (i := 3) nd rfl (.inl rfl)) (sgs_cons (sg_name (i := 4) nd rfl (.inl rfl)) (sgs_nil)))) (fun _ _ _ _ _ => pts_yes) (fun _ _ _ _ _ => se_if (st_cmpA op_ge ok_ge (se_var (pv 3)) (se_op op_mulAll ok_mul (se_int) (se_ix (se_var (pv 1)) (se_int) (fun _ _ => rfl))) (nomark _)) (se_callV (k := 1) (i := 2) (calT (calT_cons (c_more_form.mono (by omega)).weak calT_nil)) (hr.mono (by first | decide | omega)) takes0 (fun _ _ _ _ _ h => h) rfl (by first | exact .inl rfl | exact .inr (.inl rfl) | exact .inr (.inr rfl)) (sa_cons (se_var (pv 4)) (sa_cons (se_ix (se_var (pv 1)) (se_int) (fun _ _ => rfl)) (sa_nil)))) (se_var (pv 4)))) (sa_nil))))
theorem cal_f_put (T : Tx K mg base) : Cal P w K mg base 1 "put" 3 true f_put := by
  refine cal_of T.d_put (fun F => F.bindsN fun _ _ _ _ _ _ us hl => match us, hl with | [_, _, _], _ => rfl) fun {f fd} F => def_ok F sc_f_put rfl fun cdv A outer s H E hr => ?_
  have nd := sc_f_put.nd
  have hu := hr.units
  have hu5 := units5 hr
  have tk := takes_of (X := cxOf (L2.CX P w) P w K mg base N_f_put "put" (defScope s_f_put) f cdv A outer s H E) rfl rfl rfl rfl
  have hps := passes_of (X := cxOf (L2.CX P w) P w K mg base N_f_put "put" (defScope s_f_put) f cdv A outer s H E) rfl
  exact sss_one (ss_ret (se_op op_addAll ok_add (se_op op_addAll ok_add (se_sl (se_var (pv 0)) (so_none) (so_some (se_var (pv 1)))) (se_tup (sa_cons (se_var (pv 2)) (sa_nil)))) (se_sl (se_var (pv 0)) (so_some (se_op op_addAll ok_add (se_var (pv 1)) (se_int))) (so_none))))
theorem cal_f_fact_rows (T : Tx K mg base) : Cal P w K mg base 1 "fact_rows" 1 true f_fact_rows := by
  refine cal_of T.d_fact_rows (fun F => F.bindsN fun _ _ _ _ _ _ us hl => match us, hl with | [_], _ => rfl) fun {f fd} F => def_ok F sc_f_fact_rows rfl fun cdv A outer s H E hr => ?_
  have nd := sc_f_fact_rows.nd
  have hu := hr.units
  have hu5 := units5 hr
  have tk := takes_of (X := cxOf (L2.CX P w) P w K mg base N_f_fact_rows "fact_rows" (defScope s_f_fact_rows) f cdv A outer s H E) rfl rfl rfl rfl
  have hps := passes_of (X := cxOf (L2.CX P w) P w K mg base N_f_fact_rows "fact_rows" (defScope s_f_fact_rows) f cdv A outer s H E) rfl
  exact sss_one (ss_ret (se_lc rfl nd (own := [("fact", 1)]) (si_seq (se_ix (se_var (pv 0)) (se_int) (fun _ _ => rfl))) (blkOk_by (N := N_f_fact_rows) (sc := defScope s_f_fact_rows) (by decide +kernel)) (fun _ _ _ _ _ => sg_name (i := 1) nd rfl (.inl rfl)) (fun _ _ _ _ _ => pts_yes) (fun _ _ _ _ _ => se_op op_addAll ok_add (se_var (pv 1)) (se_tup (sa_cons (se_bl) (sa_nil))))))
theorem cal_f_test_row (T : Tx K mg base) : Cal P w K mg base 2 "test_row" 3 true f_test_row := by
  have c_more_form := cal_f_more_form (P := P) (w := w) (base := base) T
  refine cal_of T.d_test_row (fun F => F.bindsN fun _ _ _ _ _ _ us hl => match us, hl with | [_, _, _], _ => rfl) fun {f fd} F => def_ok F sc_f_test_row rfl fun cdv A outer s H E hr => ?_
  have nd := sc_f_test_row.nd
  have hu := hr.units
  have hu5 := units5 hr
  have tk := takes_of (X := cxOf (L2.CX P w) P w K mg base N_f_test_row "test_row" (defScope s_f_test_row) f cdv A outer s H E) rfl rfl rfl rfl
  have hps := passes_of (X := cxOf (L2.CX P w) P w K mg base N_f_test_row "test_row" (defScope s_f_test_row) f cdv A outer s H E) rfl
  exact sss_cons (ss_par0 (i := 3) (j := 4) rfl nd rfl rfl (by decide) rfl rfl (sa_cons (se_call c_more_form (hr.mono (by first | decide | omega)) tk rfl (sa_cons (se_ix (se_var (pv 0)) (se_ix (se_var (pv 1)) (se_int) (fun _ _ => rfl)) (fun _ _ => rfl)) (sa_cons (se_ix (se_var (pv 1)) (se_int) (fun _ _ => rfl)) (sa_nil)))) (sa_cons (se_ix (se_var (pv 0)) (se_ix (se_var (pv 1)) (se_int) (fun _ _ => rfl)) (fun _ _ => rfl)) (sa_nil))) rfl) (sss_cons (ss_if (st_val (se_var (pv 2))) (sss_one (ss_ret (se_tup (sa_cons (se_ix (se_var (pv 4)) (se_int) (fun _ _ => rfl)) (sa_cons (se_ix (se_var (pv 3)) (se_int) (fun _ _ => rfl)) (sa_cons (se_op op_sub ok_sub (se_ix (se_var (pv 4)) (se_int) (fun _ _ => rfl)) (se_ix (se_var (pv 3)) (se_int) (fun _ _ => rfl))) (sa_cons (se_bl) (sa_nil)))))))) (sss_nil)) (sss_one (ss_ret (se_tup (sa_cons (se_ix (se_var (pv 3)) (se_int) (fun _ _ => rfl)) (sa_cons (se_ix (se_var (pv 4)) (se_int) (fun _ _ => rfl)) (sa_cons (se_op op_sub ok_sub (se_ix (se_var (pv 3)) (se_int) (fun _ _ => rfl)) (se_ix (se_var (pv 4)) (se_int) (fun _ _ => rfl))) (sa_cons (se_bl) (sa_nil)))))))))
theorem cal_f_first_forms (T : Tx K mg base) : Cal P w K mg base 1 "first_forms" 1 true f_first_forms := by
  refine cal_of T.d_first_forms (fun F => F.bindsN fun _ _ _ _ _ _ us hl => match us, hl with | [_], _ => rfl) fun {f fd} F => def_ok F sc_f_first_forms rfl fun cdv A outer s H E hr => ?_
  have nd := sc_f_first_forms.nd
  have hu := hr.units
  have hu5 := units5 hr
  have tk := takes_of (X := cxOf (L2.CX P w) P w K mg base N_f_first_forms "first_forms" (defScope s_f_first_forms) f cdv A outer s H E) rfl rfl rfl rfl
  have hps := passes_of (X := cxOf (L2.CX P w) P w K mg base N_f_first_forms "first_forms" (defScope s_f_first_forms) f cdv A outer s H E) rfl
  exact sss_one (ss_ret (se_callTy call_tuple_of ok_tup (by rfl) T.b_tuple (by decide +kernel) (sa_cons (se_lc rfl nd (own := [("number", 1)]) (si_seq (se_lstR1 rfl (by rfl) T.b_list (by rfl) T.b_range (se_op op_mulAll ok_mul (se_int) (se_var (pv 0))))) (blkOk_by (N := N_f_first_forms) (sc := defScope s_f_first_forms) (by decide +kernel)) (fun _ _ _ _ _ => sg_name (i := 1) nd rfl (.inl rfl)) (fun _ _ _ _ _ => pts_yes) (fun _ _ _ _ _ => se_tup (sa_cons (se_var (pv 1)) (sa_cons (se_int) (sa_nil))))) (sa_nil))))
theorem cal_f_truths_at (T : Tx K mg base) : Cal P w K mg base 1 "truths_at" 2 true f_truths_at := by
  refine cal_of T.d_truths_at (fun F => F.bindsN fun _ _ _ _ _ _ us hl => match us, hl with | [_, _], _ => rfl) fun {f fd} F => def_ok F sc_f_truths_at rfl fun cdv A outer s H E hr => ?_
  have nd := sc_f_truths_at.nd
  have hu := hr.units
  have hu5 := units5 hr
  have tk := takes_of (X := cxOf (L2.CX P w) P w K mg base N_f_truths_at "truths_at" (defScope s_f_truths_at) f cdv A outer s H E) rfl rfl rfl rfl
  have hps := passes_of (X := cxOf (L2.CX P w) P w K mg base N_f_truths_at "truths_at" (defScope s_f_truths_at) f cdv A outer s H E) rfl
  exact sss_one (ss_ret (se_if (st_cmpA op_isN ok_isN (se_var (pv 1)) (se_non) (nomark _)) (se_tup (sa_cons (se_bl) (sa_cons (se_bl) (sa_nil)))) (se_tup (sa_cons (se_ix (se_var (pv 1)) (se_callB call_lenAll ok_len (by rfl) T.b_len PySem.boot_len (sa_cons (se_var (pv 0)) (sa_nil))) (fun _ _ => rfl)) (sa_nil)))))
theorem cal_f_branches (T : Tx K mg base) : Cal P w K mg base 4 "branches" 5 false f_branches := by
  have c_tests_of := cal_f_tests_of (P := P) (w := w) (base := base) T
  have c_truths_at := cal_f_truths_at (P := P) (w := w) (base := base) T
  have c_shifted := cal_f_shifted (P := P) (w := w) (base := base) T
  have c_more_form := cal_f_more_form (P := P) (w := w) (base := base) T
  have c_test_row := cal_f_test_row (P := P) (w := w) (base := base) T
  have c_put := cal_f_put (P := P) (w := w) (base := base) T
  have c_can_be := cal_f_can_be (P := P) (w := w) (base := base) T
  refine cal_of T.d_branches (fun F => F.bindsN fun _ _ _ _ _ _ us hl => match us, hl with | [_, _, _, _, _], _ => rfl) fun {f fd} F => def_ok F sc_f_branches rfl fun cdv A outer s H E hr => ?_
  have nd := sc_f_branches.nd
  have hu := hr.units
  have hu5 := units5 hr
  have tk := takes_of (X := cxOf (L2.CX P w) P w K mg base N_f_branches "branches" (defScope s_f_branches) f cdv A outer s H E) rfl rfl rfl rfl
  have hps := passes_of (X := cxOf (L2.CX P w) P w K mg base N_f_branches "branches" (defScope s_f_branches) f cdv A outer s H E) rfl
  exact sss_cons (ss_set (i := 5) nd rfl (.inl rfl) (se_lst (sa_cons (se_tup (sa_cons (se_tup (sa_nil)) (sa_cons (se_var (pv 2)) (sa_cons (se_var (pv 3)) (sa_nil))))) (sa_nil)))) (sss_cons (ss_for hps rfl (si_seq (se_var (pv 1))) (sg_name (i := 6) nd rfl (.inr rfl)) (sss_cons (ss_if (st_cmpA (op_eqD hu) ok_eq (se_ix (se_var (pv 6)) (se_int) (fun _ _ => rfl)) (se_str) (nomark _)) (sss_one (ss_setLc (i := 5) rfl nd rfl rfl (sw_true rfl rfl rfl (by decide +kernel)) (own := [("word", 7), ("forms", 8), ("known", 9)]) (si_seq (se_var (pv 5))) (blkOk_by (N := N_f_branches) (sc := defScope s_f_branches) (by decide +kernel)) (fun _ _ _ _ _ => sg_tup rfl (sgs_cons (sg_name (i := 7) nd rfl (.inl rfl)) (sgs_cons (sg_name (i := 8) nd rfl (.inl rfl)) (sgs_cons (sg_name (i := 9) nd rfl (.inl rfl)) (sgs_nil))))) (fun _ _ _ _ _ => pts_yes) (fun _ _ _ _ _ => se_tup (sa_cons (se_var (pv 7)) (sa_cons (se_call c_shifted (hr.mono (by first | decide | omega)) takes0 rfl (sa_cons (se_var (pv 8)) (sa_cons (se_var (pv 6)) (sa_cons (se_fn rfl T.g_more_form) (sa_nil))))) (sa_cons (se_var (pv 9)) (sa_nil))))))) (sss_nil)) (sss_one (ss_for hps rfl (si_seq (se_call c_tests_of (hr.mono (by first | decide | omega)) tk rfl (sa_cons (se_var (pv 0)) (sa_cons (se_var (pv 6)) (sa_nil))))) (sg_name (i := 10) nd rfl (.inl rfl)) (sss_cons (ss_set (i := 11) nd rfl (.inl rfl) (se_lst (sa_nil))) (sss_cons (ss_for hps rfl (si_seq (se_var (pv 5))) (sg_tup rfl (sgs_cons (sg_name (i := 7) nd rfl (.inl rfl)) (sgs_cons (sg_name (i := 8) nd rfl (.inl rfl)) (sgs_cons (sg_name (i := 9) nd rfl (.inl rfl)) (sgs_nil))))) (sss_one (ss_for hps rfl (si_seq (se_call c_truths_at (hr.mono (by first | decide | omega)) tk rfl (sa_cons (se_var (pv 7)) (sa_cons (se_var (pv 4)) (sa_nil))))) (sg_name (i := 12) nd rfl (.inl rfl)) (sss_cons (ss_set (i := 13) nd rfl (.inl rfl) (se_call c_test_row (hr.mono (by first | decide | omega)) tk rfl (sa_cons (se_var (pv 8)) (sa_cons (se_var (pv 10)) (sa_cons (se_var (pv 12)) (sa_nil)))))) (sss_cons (ss_set (i := 14) nd rfl (.inl rfl) (se_call c_more_form (hr.mono (by first | decide | omega)) tk rfl (sa_cons (se_ix (se_var (pv 8)) (se_ix (se_var (pv 10)) (se_int) (fun _ _ => rfl)) (fun _ _ => rfl)) (sa_cons (se_ix (se_var (pv 10)) (se_int) (fun _ _ => rfl)) (sa_nil))))) (sss_cons (ss_set (i := 15) nd rfl (.inl rfl) (se_if (st_val (se_var (pv 12))) (seF (se_call c_put (hr.mono (by first | decide | omega)) tk rfl (sa_cons (se_var (pv 8)) (sa_cons (se_ix (se_var (pv 10)) (se_int) (fun _ _ => rfl)) (sa_cons (se_var (pv 14)) (sa_nil)))))) (se_var (pv 8)))) (sss_one (ss_if (SW.st (sw_or (st_cmpA op_notN ok_notN (se_var (pv 4)) (se_non) (nomark _)) (sw_or1 (st_val (se_call c_can_be (hr.mono (by first | decide | omega)) tk rfl (sa_cons (se_op op_addAll ok_add (se_var (pv 9)) (se_lst (sa_cons (se_var (pv 13)) (sa_nil)))) (sa_cons (se_op op_mulAll ok_mul (se_int) (se_var (pv 0))) (sa_nil)))))))) (sss_one (ss_set (i := 11) nd rfl (.inl rfl) (se_op op_addAll ok_add (se_var (pv 11)) (se_lst (sa_cons (se_tup (sa_cons (se_op op_addAll ok_add (se_var (pv 7)) (se_tup (sa_cons (se_var (pv 12)) (sa_nil)))) (sa_cons (se_var (pv 15)) (sa_cons (se_op op_addAll ok_add (se_var (pv 9)) (se_lst (sa_cons (se_var (pv 13)) (sa_nil)))) (sa_nil))))) (sa_nil)))))) (sss_nil))))))))) (sss_one (ss_set (i := 5) nd rfl (.inl rfl) (se_var (pv 11)))))))))) (sss_one (ss_ret (se_var (pv 5)))))
theorem cal_f_run_by (T : Tx K mg base) : Cal P w K mg base 5 "run_by" 3 false f_run_by := by
  have c_branches := cal_f_branches (P := P) (w := w) (base := base) T
  have c_first_forms := cal_f_first_forms (P := P) (w := w) (base := base) T
  have c_fact_rows := cal_f_fact_rows (P := P) (w := w) (base := base) T
  refine cal_of T.d_run_by (fun F => F.bindsN fun _ _ _ _ _ _ us hl => match us, hl with | [_, _, _], _ => rfl) fun {f fd} F => def_ok F sc_f_run_by rfl fun cdv A outer s H E hr => ?_
  have nd := sc_f_run_by.nd
  have hu := hr.units
  have hu5 := units5 hr
  have tk := takes_of (X := cxOf (L2.CX P w) P w K mg base N_f_run_by "run_by" (defScope s_f_run_by) f cdv A outer s H E) rfl rfl rfl rfl
  have hps := passes_of (X := cxOf (L2.CX P w) P w K mg base N_f_run_by "run_by" (defScope s_f_run_by) f cdv A outer s H E) rfl
  exact sss_one (ss_ret (se_ix (se_call c_branches (hr.mono (by first | decide | omega)) tk rfl (sa_cons (se_ix (se_var (pv 0)) (se_int) (fun _ _ => rfl)) (sa_cons (se_var (pv 1)) (sa_cons (se_call c_first_forms (hr.mono (by first | decide | omega)) tk rfl (sa_cons (se_ix (se_var (pv 0)) (se_int) (fun _ _ => rfl)) (sa_nil))) (sa_cons (se_call c_fact_rows (hr.mono (by first | decide | omega)) tk rfl (sa_cons (se_var (pv 0)) (sa_nil))) (sa_cons (se_var (pv 2)) (sa_nil))))))) (se_int) (fun _ _ => rfl)))
theorem cal_f_need_word (T : Tx K mg base) : Cal P w K mg base 5 "need_word" 3 false f_need_word := by
  have c_need_book := cal_f_need_book (P := P) (w := w) (base := base) T
  have c_need_script := cal_f_need_script (P := P) (w := w) (base := base) T
  have c_tests_of := cal_f_tests_of (P := P) (w := w) (base := base) T
  refine cal_of T.d_need_word (fun F => F.bindsN fun _ _ _ _ _ _ us hl => match us, hl with | [_, _, _], _ => rfl) fun {f fd} F => def_ok F sc_f_need_word rfl fun cdv A outer s H E hr => ?_
  have nd := sc_f_need_word.nd
  have hu := hr.units
  have hu5 := units5 hr
  have tk := takes_of (X := cxOf (L2.CX P w) P w K mg base N_f_need_word "need_word" (defScope s_f_need_word) f cdv A outer s H E) rfl rfl rfl rfl
  have hps := passes_of (X := cxOf (L2.CX P w) P w K mg base N_f_need_word "need_word" (defScope s_f_need_word) f cdv A outer s H E) rfl
  exact sss_cons (ss_drop (se_call c_need_book (hr.mono (by first | decide | omega)) tk rfl (sa_cons (se_var (pv 0)) (sa_nil)))) (sss_cons (ss_drop (se_call c_need_script (hr.mono (by first | decide | omega)) tk rfl (sa_cons (se_ix (se_var (pv 0)) (se_int) (fun _ _ => rfl)) (sa_cons (se_var (pv 1)) (sa_nil))))) (sss_cons (ss_set (i := 3) nd rfl (.inl rfl) (se_callB (cr_sum rfl) ok_sum (by rfl) T.b_sum (by decide +kernel) (sa_cons (se_lc rfl nd (own := [("step", 4)]) (si_seq (se_var (pv 1))) (blkOk_by (N := N_f_need_word) (sc := defScope s_f_need_word) (by decide +kernel)) (fun _ _ _ _ _ => sg_name (i := 4) nd rfl (.inl rfl)) (fun _ _ _ _ _ => pts_yes) (fun _ _ _ _ _ => se_callB call_lenAll ok_len (by rfl) T.b_len PySem.boot_len (sa_cons (se_call c_tests_of (hr.mono (by first | decide | omega)) takes0 rfl (sa_cons (se_ix (se_var (pv 0)) (se_int) (fun _ _ => rfl)) (sa_cons (se_var (pv 4)) (sa_nil)))) (sa_nil)))) (sa_nil)))) (sss_one (ss_if (SW.st (sw_or (st_not (st_val (se_callB call_isi ok_isi (by rfl) T.b_isinstance (by decide +kernel) (sa_cons (se_var (pv 2)) (sa_cons (se_ty (by rfl) T.b_tuple (by decide +kernel)) (sa_nil)))))) (sw_or (st_cmpA (op_neD hu) ok_ne (se_callB call_lenAll ok_len (by rfl) T.b_len PySem.boot_len (sa_cons (se_var (pv 2)) (sa_nil))) (se_var (pv 3)) (nomark _)) (sw_or1 (st_not (st_val (se_callB (cr_all rfl) ok_all (by rfl) T.b_all (by decide +kernel) (sa_cons (se_lc rfl nd (own := [("truth", 5)]) (si_seq (se_var (pv 2))) (blkOk_by (N := N_f_need_word) (sc := defScope s_f_need_word) (by decide +kernel)) (fun _ _ _ _ _ => sg_name (i := 5) nd rfl (.inl rfl)) (fun _ _ _ _ _ => pts_yes) (fun _ _ _ _ _ => se_callB call_isi ok_isi (by rfl) T.b_isinstance (by decide +kernel) (sa_cons (se_var (pv 5)) (sa_cons (se_ty (by rfl) T.b_bool (by decide +kernel)) (sa_nil))))) (sa_nil))))))))) (sss_one (ss_raise rfl tk T.g_InvalidWord T.e_InvalidWord rfl)) (sss_nil)))))
theorem cal_f_forms (T : Tx K mg base) : Cal P w K mg base 6 "forms" 3 false f_forms := by
  have c_need_word := cal_f_need_word (P := P) (w := w) (base := base) T
  have c_run_by := cal_f_run_by (P := P) (w := w) (base := base) T
  refine cal_of T.d_forms (fun F => F.bindsN fun _ _ _ _ _ _ us hl => match us, hl with | [_, _, _], _ => rfl) fun {f fd} F => def_ok F sc_f_forms rfl fun cdv A outer s H E hr => ?_
  have nd := sc_f_forms.nd
  have hu := hr.units
  have hu5 := units5 hr
  have tk := takes_of (X := cxOf (L2.CX P w) P w K mg base N_f_forms "forms" (defScope s_f_forms) f cdv A outer s H E) rfl rfl rfl rfl
  have hps := passes_of (X := cxOf (L2.CX P w) P w K mg base N_f_forms "forms" (defScope s_f_forms) f cdv A outer s H E) rfl
  exact sss_cons (ss_drop (se_call c_need_word (hr.mono (by first | decide | omega)) tk rfl (sa_cons (se_var (pv 0)) (sa_cons (se_var (pv 1)) (sa_cons (se_var (pv 2)) (sa_nil)))))) (sss_one (ss_ret (se_ix (se_call c_run_by (hr.mono (by first | decide | omega)) tk rfl (sa_cons (se_var (pv 0)) (sa_cons (se_var (pv 1)) (sa_cons (se_var (pv 2)) (sa_nil))))) (se_int) (fun _ _ => rfl))))
theorem cal_f_rows (T : Tx K mg base) : Cal P w K mg base 6 "rows" 3 false f_rows := by
  have c_need_word := cal_f_need_word (P := P) (w := w) (base := base) T
  have c_run_by := cal_f_run_by (P := P) (w := w) (base := base) T
  refine cal_of T.d_rows (fun F => F.bindsN fun _ _ _ _ _ _ us hl => match us, hl with | [_, _, _], _ => rfl) fun {f fd} F => def_ok F sc_f_rows rfl fun cdv A outer s H E hr => ?_
  have nd := sc_f_rows.nd
  have hu := hr.units
  have hu5 := units5 hr
  have tk := takes_of (X := cxOf (L2.CX P w) P w K mg base N_f_rows "rows" (defScope s_f_rows) f cdv A outer s H E) rfl rfl rfl rfl
  have hps := passes_of (X := cxOf (L2.CX P w) P w K mg base N_f_rows "rows" (defScope s_f_rows) f cdv A outer s H E) rfl
  exact sss_cons (ss_drop (se_call c_need_word (hr.mono (by first | decide | omega)) tk rfl (sa_cons (se_var (pv 0)) (sa_cons (se_var (pv 1)) (sa_cons (se_var (pv 2)) (sa_nil)))))) (sss_one (ss_ret (se_ix (se_call c_run_by (hr.mono (by first | decide | omega)) tk rfl (sa_cons (se_var (pv 0)) (sa_cons (se_var (pv 1)) (sa_cons (se_var (pv 2)) (sa_nil))))) (se_int) (fun _ _ => rfl))))
theorem cal_f_is_round (T : Tx K mg base) : Cal P w K mg base 2 "is_round" 2 true f_is_round := by
  have c_is_from := cal_f_is_from (P := P) (w := w) (base := base) T
  refine cal_of T.d_is_round (fun F => F.bindsN fun _ _ _ _ _ _ us hl => match us, hl with | [_, _], _ => rfl) fun {f fd} F => def_ok F sc_f_is_round rfl fun cdv A outer s H E hr => ?_
  have nd := sc_f_is_round.nd
  have hu := hr.units
  have hu5 := units5 hr
  have tk := takes_of (X := cxOf (L2.CX P w) P w K mg base N_f_is_round "is_round" (defScope s_f_is_round) f cdv A outer s H E) rfl rfl rfl rfl
  have hps := passes_of (X := cxOf (L2.CX P w) P w K mg base N_f_is_round "is_round" (defScope s_f_is_round) f cdv A outer s H E) rfl
  exact sss_cons (ss_if (SW.st (sw_or (st_not (st_val (se_callB call_isi ok_isi (by rfl) T.b_isinstance (by decide +kernel) (sa_cons (se_var (pv 1)) (sa_cons (se_ty (by rfl) T.b_tuple (by decide +kernel)) (sa_nil)))))) (sw_or1 (st_not (st_chain ok_le ok_le (se_int) (se_callB call_lenAll ok_len (by rfl) T.b_len PySem.boot_len (sa_cons (se_var (pv 1)) (sa_nil))) (se_int) (fun ha hb hc => pt_chain op_le op_le ha hb hc)))))) (sss_one (ss_ret (se_bl))) (sss_nil)) (sss_cons (ss_if (st_not (st_val (se_callB (cr_all rfl) ok_all (by rfl) T.b_all (by decide +kernel) (sa_cons (se_lc rfl nd (own := [("number", 2)]) (si_seq (se_var (pv 1))) (blkOk_by (N := N_f_is_round) (sc := defScope s_f_is_round) (by decide +kernel)) (fun _ _ _ _ _ => sg_name (i := 2) nd rfl (.inl rfl)) (fun _ _ _ _ _ => pts_yes) (fun _ _ _ _ _ => se_call c_is_from (hr.mono (by first | decide | omega)) takes0 rfl (sa_cons (se_var (pv 2)) (sa_cons (se_int) (sa_cons (se_op op_sub ok_sub (se_callB call_lenAll ok_len (by rfl) T.b_len PySem.boot_len (sa_cons (se_var (pv 0)) (sa_nil))) (se_int)) (sa_nil)))))) (sa_nil))))) (sss_one (ss_ret (se_bl))) (sss_nil)) (sss_one (ss_ret (se_callB (cr_all rfl) ok_all (by rfl) T.b_all (by decide +kernel) (sa_cons (se_lc rfl nd (own := [("one", 3), ("other", 4)]) (si_zip (by rfl) T.b_zip (sa_cons (se_var (pv 1)) (sa_cons (se_op op_addAll ok_add (se_sl (se_var (pv 1)) (so_some (se_int)) (so_none)) (se_sl (se_var (pv 1)) (so_none) (so_some (se_int)))) (sa_nil)))) (blkOk_by (N := N_f_is_round) (sc := defScope s_f_is_round) (by decide +kernel)) (fun _ _ _ _ _ => sg_tup rfl (sgs_cons (sg_name (i := 3) nd rfl (.inl rfl)) (sgs_cons (sg_name (i := 4) nd rfl (.inl rfl)) (sgs_nil)))) (fun _ _ _ _ _ => pts_yes) (fun _ _ _ _ _ => se_cmp (op_eqD hu) ok_eq (se_ix (se_ix (se_var (pv 0)) (se_var (pv 3)) (fun _ _ => rfl)) (se_int) (fun _ _ => rfl)) (se_ix (se_ix (se_var (pv 0)) (se_var (pv 4)) (fun _ _ => rfl)) (se_int) (fun _ _ => rfl)) (nomark _))) (sa_nil))))))
theorem cal_f_is_ring (T : Tx K mg base) : Cal P w K mg base 6 "is_ring" 4 true f_is_ring := by
  have c_need_word := cal_f_need_word (P := P) (w := w) (base := base) T
  have c_run_by := cal_f_run_by (P := P) (w := w) (base := base) T
  have c_is_round := cal_f_is_round (P := P) (w := w) (base := base) T
  refine cal_of T.d_is_ring (fun F => F.bindsN fun _ _ _ _ _ _ us hl => match us, hl with | [_, _, _, _], _ => rfl) fun {f fd} F => def_ok F sc_f_is_ring rfl fun cdv A outer s H E hr => ?_
  have nd := sc_f_is_ring.nd
  have hu := hr.units
  have hu5 := units5 hr
  have tk := takes_of (X := cxOf (L2.CX P w) P w K mg base N_f_is_ring "is_ring" (defScope s_f_is_ring) f cdv A outer s H E) rfl rfl rfl rfl
  have hps := passes_of (X := cxOf (L2.CX P w) P w K mg base N_f_is_ring "is_ring" (defScope s_f_is_ring) f cdv A outer s H E) rfl
  exact sss_cons (ss_drop (se_call c_need_word (hr.mono (by first | decide | omega)) tk rfl (sa_cons (se_var (pv 0)) (sa_cons (se_var (pv 1)) (sa_cons (se_var (pv 2)) (sa_nil)))))) (sss_cons (ss_set (i := 4) nd rfl (.inr rfl) (se_ix (se_call c_run_by (hr.mono (by first | decide | omega)) tk rfl (sa_cons (se_var (pv 0)) (sa_cons (se_var (pv 1)) (sa_cons (se_var (pv 2)) (sa_nil))))) (se_int) (fun _ _ => rfl))) (sss_cons (ss_if (st_not (st_val (se_call c_is_round (hr.mono (by first | decide | omega)) tk rfl (sa_cons (se_var (pv 4)) (sa_cons (se_var (pv 3)) (sa_nil)))))) (sss_one (ss_raise rfl tk T.g_InvalidRing T.e_InvalidRing rfl)) (sss_nil)) (sss_cons (ss_set (i := 5) nd rfl (.inl rfl) (se_callB (cr_sum rfl) ok_sum (by rfl) T.b_sum (by decide +kernel) (sa_cons (se_lc rfl nd (own := [("number", 6)]) (si_seq (se_var (pv 3))) (blkOk_by (N := N_f_is_ring) (sc := defScope s_f_is_ring) (by decide +kernel)) (fun _ _ _ _ _ => sg_name (i := 6) nd rfl (.inl rfl)) (fun _ _ _ _ _ => pts_yes) (fun _ _ _ _ _ => se_ix (se_ix (se_var (pv 4)) (se_var (pv 6)) (fun _ _ => rfl)) (se_int) (fun _ _ => rfl))) (sa_nil)))) (sss_one (ss_ret (se_or (se_cmp op_gt ok_gt (se_var (pv 5)) (se_int) (nomark _)) (se_one (se_and (se_cmp (op_eqD hu) ok_eq (se_var (pv 5)) (se_int) (nomark _)) (se_one (se_callB (cr_any rfl) ok_any (by rfl) T.b_any (by decide +kernel) (sa_cons (se_lc rfl nd (own := [("number", 6)]) (si_seq (se_var (pv 3))) (blkOk_by (N := N_f_is_ring) (sc := defScope s_f_is_ring) (by decide +kernel)) (fun _ _ _ _ _ => sg_name (i := 6) nd rfl (.inl rfl)) (fun _ _ _ _ _ => pts_yes) (fun _ _ _ _ _ => se_ix (se_ix (se_var (pv 4)) (se_var (pv 6)) (fun _ _ => rfl)) (se_int) (fun _ _ => rfl))) (sa_nil))))))))))))
theorem cal_f__law_jar (T : Tx K mg base) : Cal P w K mg base 1 "_law_jar" 2 true f__law_jar := by
  refine cal_of T.d__law_jar (fun F => F.bindsN fun _ _ _ _ _ _ us hl => match us, hl with | [_, _], _ => rfl) fun {f fd} F => def_ok F sc_f__law_jar rfl fun cdv A outer s H E hr => ?_
  have nd := sc_f__law_jar.nd
  have hu := hr.units
  have hu5 := units5 hr
  have tk := takes_of (X := cxOf (L2.CX P w) P w K mg base N_f__law_jar "_law_jar" (defScope s_f__law_jar) f cdv A outer s H E) rfl rfl rfl rfl
  have hps := passes_of (X := cxOf (L2.CX P w) P w K mg base N_f__law_jar "_law_jar" (defScope s_f__law_jar) f cdv A outer s H E) rfl
  exact sss_cons (ss_set (i := 2) nd rfl (.inl rfl) (se_if (st_cmpA op_lt ok_lt (se_var (pv 1)) (se_callB call_lenAll ok_len (by rfl) T.b_len PySem.boot_len (sa_cons (se_var (pv 0)) (sa_nil))) (nomark _)) (se_callB call_abs ok_abs (by rfl) T.b_abs (by decide +kernel) (sa_cons (se_callTy call_int1 ok_int (by rfl) T.b_int (by decide +kernel) (sa_cons (se_ix (se_var (pv 0)) (se_var (pv 1)) (fun _ _ => rfl)) (sa_nil))) (sa_nil))) (se_op op_addAll ok_add (se_op op_mulAll ok_mul (se_int) (se_var (pv 1))) (se_int)))) (sss_one (ss_ret (se_lst (sa_cons (se_if (st_cmpA op_ge ok_ge (se_var (pv 2)) (se_op op_pow ok_pow (se_int) (se_int)) (nomark _)) (se_var (pv 2)) (seF (se_int))) (sa_cons (se_op op_mod ok_mod (se_callTy call_int1 ok_int (by rfl) T.b_int (by decide +kernel) (sa_cons (se_op op_addAll ok_add (se_op op_addAll ok_add (se_op op_mod ok_mod (se_callTy call_int1 ok_int (by rfl) T.b_int (by decide +kernel) (sa_cons (se_var (pv 2)) (sa_nil))) (se_int)) (se_op op_mulAll ok_mul (se_int) (se_var (pv 1)))) (se_int)) (sa_nil))) (se_int)) (sa_nil))))))
theorem cal_f__law_dip (T : Tx K mg base) : Cal P w K mg base 1 "_law_dip" 2 false f__law_dip := by
  refine cal_of T.d__law_dip (fun F => F.bindsN fun _ _ _ _ _ _ us hl => match us, hl with | [_, _], _ => rfl) fun {f fd} F => def_ok F sc_f__law_dip rfl fun cdv A outer s H E hr => ?_
  have nd := sc_f__law_dip.nd
  have hu := hr.units
  have hu5 := units5 hr
  have tk := takes_of (X := cxOf (L2.CX P w) P w K mg base N_f__law_dip "_law_dip" (defScope s_f__law_dip) f cdv A outer s H E) rfl rfl rfl rfl
  have hps := passes_of (X := cxOf (L2.CX P w) P w K mg base N_f__law_dip "_law_dip" (defScope s_f__law_dip) f cdv A outer s H E) rfl
  exact sss_cons (ss_if (st_cmpA op_gt ok_gt (se_ix (se_var (pv 0)) (se_int) (fun _ _ => rfl)) (se_int) (nomark _)) (sss_cons (ss_set (i := 2) nd rfl (.inl rfl) (se_op op_mod ok_mod (se_callTy call_int1 ok_int (by rfl) T.b_int (by decide +kernel) (sa_cons (se_ix (se_var (pv 0)) (se_int) (fun _ _ => rfl)) (sa_nil))) (se_var (pv 1)))) (sss_cons (ss_asgG (se_op op_fdivAll ok_fdiv (se_callTy call_int1 ok_int (by rfl) T.b_int (by decide +kernel) (sa_cons (se_ix (se_var (pv 0)) (se_int) (fun _ _ => rfl)) (sa_nil))) (se_var (pv 1))) (sgt_sub (W := W0) (se_var (pv 0)) (se_int))) (sss_one (ss_ret (se_var (pv 2)))))) (sss_nil)) (sss_cons (ss_asgG (se_op op_mod ok_mod (se_callTy call_int1 ok_int (by rfl) T.b_int (by decide +kernel) (sa_cons (se_op op_addAll ok_add (se_op op_mulAll ok_mul (se_ix (se_var (pv 0)) (se_int) (fun _ _ => rfl)) (se_int)) (se_int)) (sa_nil))) (se_int)) (sgt_sub (W := W0) (se_var (pv 0)) (se_int))) (sss_cons (ss_set (i := 3) nd rfl (.inl rfl) (se_op op_mod ok_mod (se_op op_mulAll ok_mul (se_callTy call_int1 ok_int (by rfl) T.b_int (by decide +kernel) (sa_cons (se_ix (se_var (pv 0)) (se_int) (fun _ _ => rfl)) (sa_nil))) (se_op op_addAll ok_add (se_op op_fdivAll ok_fdiv (se_callTy call_int1 ok_int (by rfl) T.b_int (by decide +kernel) (sa_cons (se_ix (se_var (pv 0)) (se_int) (fun _ _ => rfl)) (sa_nil))) (se_int)) (se_int))) (se_int))) (sss_one (ss_ret (seF (se_op op_mod ok_mod (se_callTy call_int1 ok_int (by rfl) T.b_int (by decide +kernel) (sa_cons (se_op op_fdivAll ok_fdiv (se_callTy call_int1 ok_int (by rfl) T.b_int (by decide +kernel) (sa_cons (se_var (pv 3)) (sa_nil))) (se_int)) (sa_nil))) (se_var (pv 1))))))))
theorem cal_f__law_any (T : Tx K mg base) : Cal P w K mg base 2 "_law_any" 2 false f__law_any := by
  have c__law_dip := cal_f__law_dip (P := P) (w := w) (base := base) T
  refine cal_of T.d__law_any (fun F => F.bindsN fun _ _ _ _ _ _ us hl => match us, hl with | [_, _], _ => rfl) fun {f fd} F => def_ok F sc_f__law_any rfl fun cdv A outer s H E hr => ?_
  have nd := sc_f__law_any.nd
  have hu := hr.units
  have hu5 := units5 hr
  have tk := takes_of (X := cxOf (L2.CX P w) P w K mg base N_f__law_any "_law_any" (defScope s_f__law_any) f cdv A outer s H E) rfl rfl rfl rfl
  have hps := passes_of (X := cxOf (L2.CX P w) P w K mg base N_f__law_any "_law_any" (defScope s_f__law_any) f cdv A outer s H E) rfl
  exact sss_one (ss_ret (se_ix (se_var (pv 1)) (se_call c__law_dip (hr.mono (by first | decide | omega)) tk rfl (sa_cons (se_var (pv 0)) (sa_cons (se_callB call_lenAll ok_len (by rfl) T.b_len PySem.boot_len (sa_cons (se_var (pv 1)) (sa_nil))) (sa_nil)))) (fun _ _ => rfl)))
theorem cal_f__law_low (T : Tx K mg base) : Cal P w K mg base 1 "_law_low" 2 true f__law_low := by
  refine cal_of T.d__law_low (fun F => F.bindsN fun _ _ _ _ _ _ us hl => match us, hl with | [_, _], _ => rfl) fun {f fd} F => def_ok F sc_f__law_low rfl fun cdv A outer s H E hr => ?_
  have nd := sc_f__law_low.nd
  have hu := hr.units
  have hu5 := units5 hr
  have tk := takes_of (X := cxOf (L2.CX P w) P w K mg base N_f__law_low "_law_low" (defScope s_f__law_low) f cdv A outer s H E) rfl rfl rfl rfl
  have hps := passes_of (X := cxOf (L2.CX P w) P w K mg base N_f__law_low "_law_low" (defScope s_f__law_low) f cdv A outer s H E) rfl
  exact sss_cons (ss_par0 (i := 2) (j := 3) rfl nd rfl rfl (by decide) rfl rfl (sa_cons (se_callB call_abs ok_abs (by rfl) T.b_abs (by decide +kernel) (sa_cons (se_var (pv 0)) (sa_nil))) (sa_cons (se_var (pv 1)) (sa_nil))) rfl) (sss_cons (ss_while hps (st_cmpA op_gt ok_gt (se_var (pv 3)) (se_int) (nomark _)) (sss_one (ss_par0 (i := 2) (j := 3) rfl nd rfl rfl (by decide) rfl rfl (sa_cons (se_var (pv 3)) (sa_cons (se_op op_mod ok_mod (se_var (pv 2)) (se_var (pv 3))) (sa_nil))) rfl))) (sss_one (ss_ret (se_tup (sa_cons (se_op op_fdivAll ok_fdiv (se_var (pv 0)) (se_var (pv 2))) (sa_cons (se_op op_fdivAll ok_fdiv (se_var (pv 1)) (se_var (pv 2))) (sa_nil)))))))
theorem cal_f__law_plus (T : Tx K mg base) : Cal P w K mg base 2 "_law_plus" 2 true f__law_plus := by
  have c__law_low := cal_f__law_low (P := P) (w := w) (base := base) T
  refine cal_of T.d__law_plus (fun F => F.bindsN fun _ _ _ _ _ _ us hl => match us, hl with | [_, _], _ => rfl) fun {f fd} F => def_ok F sc_f__law_plus rfl fun cdv A outer s H E hr => ?_
  have nd := sc_f__law_plus.nd
  have hu := hr.units
  have hu5 := units5 hr
  have tk := takes_of (X := cxOf (L2.CX P w) P w K mg base N_f__law_plus "_law_plus" (defScope s_f__law_plus) f cdv A outer s H E) rfl rfl rfl rfl
  have hps := passes_of (X := cxOf (L2.CX P w) P w K mg base N_f__law_plus "_law_plus" (defScope s_f__law_plus) f cdv A outer s H E) rfl
  exact sss_one (ss_ret (se_call c__law_low (hr.mono (by first | decide | omega)) tk rfl (sa_cons (se_op op_addAll ok_add (se_op op_mulAll ok_mul (se_ix (se_var (pv 0)) (se_int) (fun _ _ => rfl)) (se_ix (se_var (pv 1)) (se_int) (fun _ _ => rfl))) (se_op op_mulAll ok_mul (se_ix (se_var (pv 1)) (se_int) (fun _ _ => rfl)) (se_ix (se_var (pv 0)) (se_int) (fun _ _ => rfl)))) (sa_cons (se_op op_mulAll ok_mul (se_ix (se_var (pv 0)) (se_int) (fun _ _ => rfl)) (se_ix (se_var (pv 1)) (se_int) (fun _ _ => rfl))) (sa_nil)))))
theorem cal_f__law_moments (T : Tx K mg base) : Cal P w K mg base 3 "_law_moments" 2 false f__law_moments := by
  have c__law_any := cal_f__law_any (P := P) (w := w) (base := base) T
  have c__law_dip := cal_f__law_dip (P := P) (w := w) (base := base) T
  have c__law_low := cal_f__law_low (P := P) (w := w) (base := base) T
  refine cal_of T.d__law_moments (fun F => F.bindsN fun _ _ _ _ _ _ us hl => match us, hl with | [_, _], _ => rfl) fun {f fd} F => def_okC F sc_f__law_moments rfl fun cdv A outer s H E hr => ?_
  have nd := sc_f__law_moments.nd
  have hu := hr.units
  have hu5 := units5 hr
  have tk := takes_of (X := cxOf (L2.CX P w) P w K mg base N_f__law_moments "_law_moments" (defScope s_f__law_moments) f cdv A outer s H E) rfl rfl rfl rfl
  have hps := passes_of (X := cxOf (L2.CX P w) P w K mg base N_f__law_moments "_law_moments" (defScope s_f__law_moments) f cdv A outer s H E) rfl
  exact sss_cons (ss_par3 (i := 2) (j := 3) (l := 4) rfl nd rfl rfl rfl (by decide) (by decide) (by decide) rfl rfl rfl (sp_cel (se_lst (sa_nil)) (sp_cons (se_op op_sub ok_sub (se_call c__law_dip (hr.mono (by first | decide | omega)) tk rfl (sa_cons (se_var (pv 0)) (sa_cons (se_int) (sa_nil)))) (se_int)) (sp_cons (se_call c__law_any (hr.mono (by first | decide | omega)) tk rfl (sa_cons (se_var (pv 0)) (sa_cons (se_lst (sa_cons (se_int) (sa_cons (se_int) (sa_cons (se_int) (sa_cons (se_int) (sa_nil)))))) (sa_nil)))) (sp_nil)))) rfl) (sss_cons (ss_for hps rfl (si_range1 (by rfl) T.b_range (sa_cons (se_op op_mulAll ok_mul (se_int) (se_var (pv 1))) (sa_nil))) (sg_name (i := 5) nd rfl (.inl rfl)) (sss_cons (ss_drop (se_bm PySem.F.plainAttrs_list PySem.F.slot_list_append PySem.F.type_list_append mt_append ok_append (se_var (pv 2)) (sa_cons (se_call c__law_low (hr.mono (by first | decide | omega)) tk rfl (sa_cons (se_var (pv 3)) (sa_cons (se_var (pv 4)) (sa_nil)))) (sa_nil)))) (sss_one (ss_set (i := 3) nd rfl (.inl rfl) (se_op op_addAll ok_add (se_var (pv 3)) (se_call c__law_any (hr.mono (by first | decide | omega)) tk rfl (sa_cons (se_var (pv 0)) (sa_cons (se_lst (sa_cons (se_int) (sa_cons (se_int) (sa_cons (se_int) (sa_cons (se_int) (sa_cons (se_int) (sa_cons (se_int) (sa_cons (se_un un_neg ok_neg (se_int)) (sa_nil))))))))) (sa_nil))))))))) (sss_one (ss_ret (seF (se_callTy call_tuple_of ok_tup (by rfl) T.b_tuple (by decide +kernel) (sa_cons (se_var (pv 2)) (sa_nil)))))))
theorem cal_f__law_gap (T : Tx K mg base) : Cal P w K mg base 3 "_law_gap" 3 true f__law_gap := by
  have c__law_dip := cal_f__law_dip (P := P) (w := w) (base := base) T
  have c__law_plus := cal_f__law_plus (P := P) (w := w) (base := base) T
  have c__law_any := cal_f__law_any (P := P) (w := w) (base := base) T
  refine cal_of T.d__law_gap (fun F => F.bindsN fun _ _ _ _ _ _ us hl => match us, hl with | [_, _, _], _ => rfl) fun {f fd} F => def_ok F sc_f__law_gap rfl fun cdv A outer s H E hr => ?_
  have nd := sc_f__law_gap.nd
  have hu := hr.units
  have hu5 := units5 hr
  have tk := takes_of (X := cxOf (L2.CX P w) P w K mg base N_f__law_gap "_law_gap" (defScope s_f__law_gap) f cdv A outer s H E) rfl rfl rfl rfl
  have hps := passes_of (X := cxOf (L2.CX P w) P w K mg base N_f__law_gap "_law_gap" (defScope s_f__law_gap) f cdv A outer s H E) rfl
  exact sss_cons (ss_set (i := 3) nd rfl (.inl rfl) (se_call c__law_dip (hr.mono (by first | decide | omega)) tk rfl (sa_cons (se_var (pv 0)) (sa_cons (se_op op_mulAll ok_mul (se_int) (se_var (pv 1))) (sa_nil))))) (sss_cons (ss_set (i := 4) nd rfl (.inl rfl) (se_op op_mod ok_mod (se_op op_addAll ok_add (se_op op_addAll ok_add (se_var (pv 3)) (se_int)) (se_call c__law_dip (hr.mono (by first | decide | omega)) tk rfl (sa_cons (se_var (pv 0)) (sa_cons (se_op op_sub ok_sub (se_op op_mulAll ok_mul (se_int) (se_var (pv 1))) (se_int)) (sa_nil))))) (se_op op_mulAll ok_mul (se_int) (se_var (pv 1))))) (sss_cons (ss_set (i := 5) nd rfl (.inl rfl) (se_call c__law_plus (hr.mono (by first | decide | omega)) tk rfl (sa_cons (se_ix (se_var (pv 2)) (se_var (pv 4)) (fun _ _ => rfl)) (sa_cons (se_tup (sa_cons (se_un un_neg ok_neg (se_ix (se_ix (se_var (pv 2)) (se_var (pv 3)) (fun _ _ => rfl)) (se_int) (fun _ _ => rfl))) (sa_cons (se_ix (se_ix (se_var (pv 2)) (se_var (pv 3)) (fun _ _ => rfl)) (se_int) (fun _ _ => rfl)) (sa_nil)))) (sa_nil))))) (sss_cons (ss_set (i := 6) nd rfl (.inl rfl) (se_op op_sub ok_sub (se_op op_fdivAll ok_fdiv (se_ix (se_var (pv 5)) (se_int) (fun _ _ => rfl)) (se_ix (se_var (pv 5)) (se_int) (fun _ _ => rfl))) (se_call c__law_any (hr.mono (by first | decide | omega)) tk rfl (sa_cons (se_var (pv 0)) (sa_cons (se_lst (sa_cons (se_int) (sa_cons (se_int) (sa_cons (se_int) (sa_cons (se_int) (sa_nil)))))) (sa_nil)))))) (sss_one (ss_ret (se_tup (sa_cons (se_var (pv 3)) (sa_cons (se_var (pv 4)) (sa_cons (se_if (st_cmpA op_gt ok_gt (se_call c__law_dip (hr.mono (by first | decide | omega)) tk rfl (sa_cons (se_var (pv 0)) (sa_cons (se_int) (sa_nil)))) (se_int) (nomark _)) (se_var (pv 6)) (seF (se_op op_sub ok_sub (se_call c__law_dip (hr.mono (by first | decide | omega)) tk rfl (sa_cons (se_var (pv 0)) (sa_cons (se_int) (sa_nil)))) (se_int)))) (sa_nil))))))))))
theorem cal_f__law_book (T : Tx K mg base) : Cal P w K mg base 4 "_law_book" 3 true f__law_book := by
  have c__law_moments := cal_f__law_moments (P := P) (w := w) (base := base) T
  have c__law_gap := cal_f__law_gap (P := P) (w := w) (base := base) T
  have c__law_dip := cal_f__law_dip (P := P) (w := w) (base := base) T
  refine cal_of T.d__law_book (fun F => F.bindsN fun _ _ _ _ _ _ us hl => match us, hl with | [_, _, _], _ => rfl) fun {f fd} F => def_ok F sc_f__law_book rfl fun cdv A outer s H E hr => ?_
  have nd := sc_f__law_book.nd
  have hu := hr.units
  have hu5 := units5 hr
  have tk := takes_of (X := cxOf (L2.CX P w) P w K mg base N_f__law_book "_law_book" (defScope s_f__law_book) f cdv A outer s H E) rfl rfl rfl rfl
  have hps := passes_of (X := cxOf (L2.CX P w) P w K mg base N_f__law_book "_law_book" (defScope s_f__law_book) f cdv A outer s H E) rfl
  exact sss_cons (ss_set (i := 3) nd rfl (.inr rfl) (se_call c__law_moments (hr.mono (by first | decide | omega)) tk rfl (sa_cons (se_var (pv 0)) (sa_cons (se_var (pv 1)) (sa_nil))))) (sss_one (ss_ret (se_tup (sa_cons (se_var (pv 1)) (sa_cons (se_callTy call_tuple_of ok_tup (by rfl) T.b_tuple (by decide +kernel) (sa_cons (se_lc rfl nd (own := [("turn", 4)]) (si_range1 (by rfl) T.b_range (sa_cons (se_call c__law_dip (hr.mono (by first | decide | omega)) tk rfl (sa_cons (se_var (pv 0)) (sa_cons (se_op op_addAll ok_add (se_var (pv 2)) (se_int)) (sa_nil)))) (sa_nil))) (blkOk_by (N := N_f__law_book) (sc := defScope s_f__law_book) (by decide +kernel)) (fun _ _ _ _ _ => sg_name (i := 4) nd rfl (.inl rfl)) (fun _ _ _ _ _ => pts_yes) (fun _ _ _ _ _ => se_call c__law_gap (hr.mono (by first | decide | omega)) takes0 rfl (sa_cons (se_var (pv 0)) (sa_cons (se_var (pv 1)) (sa_cons (se_var (pv 3)) (sa_nil)))))) (sa_nil))) (sa_nil))))))
theorem cal_f__law_step (T : Tx K mg base) : Cal P w K mg base 3 "_law_step" 2 true f__law_step := by
  have c__law_dip := cal_f__law_dip (P := P) (w := w) (base := base) T
  have c__law_any := cal_f__law_any (P := P) (w := w) (base := base) T
  refine cal_of T.d__law_step (fun F => F.bindsN fun _ _ _ _ _ _ us hl => match us, hl with | [_, _], _ => rfl) fun {f fd} F => def_ok F sc_f__law_step rfl fun cdv A outer s H E hr => ?_
  have nd := sc_f__law_step.nd
  have hu := hr.units
  have hu5 := units5 hr
  have tk := takes_of (X := cxOf (L2.CX P w) P w K mg base N_f__law_step "_law_step" (defScope s_f__law_step) f cdv A outer s H E) rfl rfl rfl rfl
  have hps := passes_of (X := cxOf (L2.CX P w) P w K mg base N_f__law_step "_law_step" (defScope s_f__law_step) f cdv A outer s H E) rfl
  exact sss_cons (ss_set (i := 2) nd rfl (.inl rfl) (se_call c__law_dip (hr.mono (by first | decide | omega)) tk rfl (sa_cons (se_var (pv 0)) (sa_cons (se_int) (sa_nil))))) (sss_cons (ss_if (st_cmpA (op_eqD hu) ok_eq (se_var (pv 2)) (se_int) (nomark _)) (sss_one (ss_ret (se_tup (sa_cons (se_str) (sa_cons (se_call c__law_dip (hr.mono (by first | decide | omega)) tk rfl (sa_cons (se_var (pv 0)) (sa_cons (se_var (pv 1)) (sa_nil)))) (sa_cons (se_op op_sub ok_sub (se_call c__law_dip (hr.mono (by first | decide | omega)) tk rfl (sa_cons (se_var (pv 0)) (sa_cons (se_int) (sa_nil)))) (se_int)) (sa_nil))))))) (sss_nil)) (sss_one (ss_ret (se_tup (sa_cons (se_call c__law_any (hr.mono (by first | decide | omega)) tk rfl (sa_cons (se_var (pv 0)) (sa_cons (se_lst (sa_cons (se_str) (sa_cons (se_str) (sa_cons (se_str) (sa_cons (se_str) (sa_cons (se_str) (sa_nil))))))) (sa_nil)))) (sa_cons (se_call c__law_any (hr.mono (by first | decide | omega)) tk rfl (sa_cons (se_var (pv 0)) (sa_cons (se_lst (sa_cons (se_int) (sa_cons (se_int) (sa_cons (se_int) (sa_cons (se_int) (sa_cons (se_int) (sa_nil))))))) (sa_nil)))) (sa_nil)))))))
theorem cal_f__law_steps (T : Tx K mg base) : Cal P w K mg base 4 "_law_steps" 3 true f__law_steps := by
  have c__law_step := cal_f__law_step (P := P) (w := w) (base := base) T
  have c__law_dip := cal_f__law_dip (P := P) (w := w) (base := base) T
  refine cal_of T.d__law_steps (fun F => F.bindsN fun _ _ _ _ _ _ us hl => match us, hl with | [_, _, _], _ => rfl) fun {f fd} F => def_ok F sc_f__law_steps rfl fun cdv A outer s H E hr => ?_
  have nd := sc_f__law_steps.nd
  have hu := hr.units
  have hu5 := units5 hr
  have tk := takes_of (X := cxOf (L2.CX P w) P w K mg base N_f__law_steps "_law_steps" (defScope s_f__law_steps) f cdv A outer s H E) rfl rfl rfl rfl
  have hps := passes_of (X := cxOf (L2.CX P w) P w K mg base N_f__law_steps "_law_steps" (defScope s_f__law_steps) f cdv A outer s H E) rfl
  exact sss_one (ss_ret (se_callTy call_tuple_of ok_tup (by rfl) T.b_tuple (by decide +kernel) (sa_cons (se_lc rfl nd (own := [("turn", 3)]) (si_range1 (by rfl) T.b_range (sa_cons (se_call c__law_dip (hr.mono (by first | decide | omega)) tk rfl (sa_cons (se_var (pv 0)) (sa_cons (se_op op_addAll ok_add (se_var (pv 2)) (se_int)) (sa_nil)))) (sa_nil))) (blkOk_by (N := N_f__law_steps) (sc := defScope s_f__law_steps) (by decide +kernel)) (fun _ _ _ _ _ => sg_name (i := 3) nd rfl (.inl rfl)) (fun _ _ _ _ _ => pts_yes) (fun _ _ _ _ _ => se_call c__law_step (hr.mono (by first | decide | omega)) takes0 rfl (sa_cons (se_var (pv 0)) (sa_cons (se_var (pv 1)) (sa_nil))))) (sa_nil))))
theorem cal_f__law_form (T : Tx K mg base) : Cal P w K mg base 1 "_law_form" 2 true f__law_form := by
  refine cal_of T.d__law_form (fun F => F.bindsN fun _ _ _ _ _ _ us hl => match us, hl with | [_, _], _ => rfl) fun {f fd} F => def_ok F sc_f__law_form rfl fun cdv A outer s H E hr => ?_
  have nd := sc_f__law_form.nd
  have hu := hr.units
  have hu5 := units5 hr
  have tk := takes_of (X := cxOf (L2.CX P w) P w K mg base N_f__law_form "_law_form" (defScope s_f__law_form) f cdv A outer s H E) rfl rfl rfl rfl
  have hps := passes_of (X := cxOf (L2.CX P w) P w K mg base N_f__law_form "_law_form" (defScope s_f__law_form) f cdv A outer s H E) rfl
  exact sss_one (ss_ret (se_tup (sa_cons (se_ix (se_var (pv 0)) (se_int) (fun _ _ => rfl)) (sa_cons (se_op op_addAll ok_add (se_ix (se_var (pv 0)) (se_int) (fun _ _ => rfl)) (se_var (pv 1))) (sa_nil)))))
theorem cal_f__law_tests (T : Tx K mg base) : Cal P w K mg base 1 "_law_tests" 2 false f__law_tests := by
  refine cal_of T.d__law_tests (fun F => F.bindsN fun _ _ _ _ _ _ us hl => match us, hl with | [_, _], _ => rfl) fun {f fd} F => def_ok F sc_f__law_tests rfl fun cdv A outer s H E hr => ?_
  have nd := sc_f__law_tests.nd
  have hu := hr.units
  have hu5 := units5 hr
  have tk := takes_of (X := cxOf (L2.CX P w) P w K mg base N_f__law_tests "_law_tests" (defScope s_f__law_tests) f cdv A outer s H E) rfl rfl rfl rfl
  have hps := passes_of (X := cxOf (L2.CX P w) P w K mg base N_f__law_tests "_law_tests" (defScope s_f__law_tests) f cdv A outer s H E) rfl
  exact sss_cons (ss_if (st_cmpA (op_eqD hu) ok_eq (se_var (pv 0)) (se_str) (nomark _)) (sss_one (ss_ret (seF (se_lst (sa_nil))))) (sss_nil)) (sss_cons (ss_set (i := 2) nd rfl (.inl rfl) (se_lstR1 rfl (by rfl) T.b_list (by rfl) T.b_range (se_var (pv 1)))) (sss_one (ss_ret (se_if (st_cmpA (op_eqD hu) ok_eq (se_var (pv 0)) (se_str) (nomark _)) (seF (se_sl (se_var (pv 2)) (so_some (se_int)) (so_none))) (se_if (st_cmpA (op_eqD hu) ok_eq (se_var (pv 0)) (se_str) (nomark _)) (seF (se_sl (se_var (pv 2)) (so_none) (so_some (se_un un_neg ok_neg (se_int))))) (se_var (pv 2)))))))
theorem cal_f__law_compared (T : Tx K mg base) : Cal P w K mg base 2 "_law_compared" 3 true f__law_compared := by
  have c__law_form := cal_f__law_form (P := P) (w := w) (base := base) T
  refine cal_of T.d__law_compared (fun F => F.bindsN fun _ _ _ _ _ _ us hl => match us, hl with | [_, _, _], _ => rfl) fun {f fd} F => def_ok F sc_f__law_compared rfl fun cdv A outer s H E hr => ?_
  have nd := sc_f__law_compared.nd
  have hu := hr.units
  have hu5 := units5 hr
  have tk := takes_of (X := cxOf (L2.CX P w) P w K mg base N_f__law_compared "_law_compared" (defScope s_f__law_compared) f cdv A outer s H E) rfl rfl rfl rfl
  have hps := passes_of (X := cxOf (L2.CX P w) P w K mg base N_f__law_compared "_law_compared" (defScope s_f__law_compared) f cdv A outer s H E) rfl
  exact sss_cons (ss_par0 (i := 3) (j := 4) rfl nd rfl rfl (by decide) rfl rfl (sa_cons (se_ix (se_var (pv 0)) (se_int) (fun _ _ => rfl)) (sa_cons (se_ix (se_var (pv 0)) (se_un un_neg ok_neg (se_int)) (fun _ _ => rfl)) (sa_nil))) rfl) (sss_cons (ss_if (st_cmpA (op_eqD hu) ok_eq (se_var (pv 3)) (se_str) (nomark _)) (sss_cons (ss_set (i := 5) nd rfl (.inl rfl) (se_call c__law_form (hr.mono (by first | decide | omega)) tk rfl (sa_cons (se_ix (se_var (pv 2)) (se_op op_sub ok_sub (se_op op_mulAll ok_mul (se_int) (se_var (pv 1))) (se_int)) (fun _ _ => rfl)) (sa_cons (se_var (pv 4)) (sa_nil))))) (sss_one (ss_ret (se_tup (sa_cons (se_var (pv 5)) (sa_cons (se_ix (se_var (pv 2)) (se_op op_mulAll ok_mul (se_int) (se_var (pv 1))) (fun _ _ => rfl)) (sa_cons (se_op op_mulAll ok_mul (se_int) (se_var (pv 1))) (sa_cons (se_var (pv 5)) (sa_nil))))))))) (sss_nil)) (sss_cons (ss_if (st_cmpA (op_eqD hu) ok_eq (se_var (pv 3)) (se_str) (nomark _)) (sss_cons (ss_set (i := 6) nd rfl (.inl rfl) (se_ix (se_var (pv 2)) (se_op op_addAll ok_add (se_op op_mulAll ok_mul (se_int) (se_var (pv 1))) (se_int)) (fun _ _ => rfl))) (sss_one (ss_ret (se_tup (sa_cons (se_call c__law_form (hr.mono (by first | decide | omega)) tk rfl (sa_cons (se_ix (se_var (pv 2)) (se_op op_addAll ok_add (se_op op_mulAll ok_mul (se_int) (se_var (pv 1))) (se_int)) (fun _ _ => rfl)) (sa_cons (se_var (pv 4)) (sa_nil)))) (sa_cons (se_var (pv 6)) (sa_cons (se_op op_addAll ok_add (se_op op_mulAll ok_mul (se_int) (se_var (pv 1))) (se_int)) (sa_cons (se_call c__law_form (hr.mono (by first | decide | omega)) tk rfl (sa_cons (se_var (pv 6)) (sa_cons (se_un un_neg ok_neg (se_var (pv 4))) (sa_nil)))) (sa_nil))))))))) (sss_nil)) (sss_cons (ss_set (i := 5) nd rfl (.inl rfl) (se_call c__law_form (hr.mono (by first | decide | omega)) tk rfl (sa_cons (se_ix (se_var (pv 2)) (se_op op_mulAll ok_mul (se_int) (se_var (pv 1))) (fun _ _ => rfl)) (sa_cons (se_var (pv 4)) (sa_nil))))) (sss_cons (ss_if (st_cmpA (op_eqD hu) ok_eq (se_var (pv 3)) (se_str) (nomark _)) (sss_one (ss_ret (se_tup (sa_cons (se_var (pv 5)) (sa_cons (se_ix (se_var (pv 2)) (se_op op_addAll ok_add (se_op op_mulAll ok_mul (se_int) (se_var (pv 1))) (se_int)) (fun _ _ => rfl)) (sa_cons (se_op op_addAll ok_add (se_op op_mulAll ok_mul (se_int) (se_var (pv 1))) (se_int)) (sa_cons (se_var (pv 5)) (sa_nil)))))))) (sss_nil)) (sss_one (ss_ret (se_tup (sa_cons (se_ix (se_var (pv 2)) (se_op op_addAll ok_add (se_op op_mulAll ok_mul (se_int) (se_var (pv 1))) (se_int)) (fun _ _ => rfl)) (sa_cons (se_var (pv 5)) (sa_cons (se_op op_addAll ok_add (se_op op_mulAll ok_mul (se_int) (se_var (pv 1))) (se_int)) (sa_cons (se_var (pv 5)) (sa_nil))))))))))))
theorem cal_f__law_base (T : Tx K mg base) : Cal P w K mg base 1 "_law_base" 1 true f__law_base := by
  refine cal_of T.d__law_base (fun F => F.bindsN fun _ _ _ _ _ _ us hl => match us, hl with | [_], _ => rfl) fun {f fd} F => def_ok F sc_f__law_base rfl fun cdv A outer s H E hr => ?_
  have nd := sc_f__law_base.nd
  have hu := hr.units
  have hu5 := units5 hr
  have tk := takes_of (X := cxOf (L2.CX P w) P w K mg base N_f__law_base "_law_base" (defScope s_f__law_base) f cdv A outer s H E) rfl rfl rfl rfl
  have hps := passes_of (X := cxOf (L2.CX P w) P w K mg base N_f__law_base "_law_base" (defScope s_f__law_base) f cdv A outer s H E) rfl
  exact sss_one (ss_ret (se_lc rfl nd (own := [("fact", 1)]) (si_seq (se_var (pv 0))) (blkOk_by (N := N_f__law_base) (sc := defScope s_f__law_base) (by decide +kernel)) (fun _ _ _ _ _ => sg_name (i := 1) nd rfl (.inl rfl)) (fun _ _ _ _ _ => pts_yes) (fun _ _ _ _ _ => se_op op_addAll ok_add (se_var (pv 1)) (se_tup (sa_cons (se_bl) (sa_nil))))))
theorem cal_f__law_shifted (T : Tx K mg base) : Cal P w K mg base 2 "_law_shifted" 2 false f__law_shifted := by
  have c__law_form := cal_f__law_form (P := P) (w := w) (base := base) T
  refine cal_of T.d__law_shifted (fun F => F.bindsN fun _ _ _ _ _ _ us hl => match us, hl with | [_, _], _ => rfl) fun {f fd} F => def_okC F sc_f__law_shifted rfl fun cdv A outer s H E hr => ?_
  have nd := sc_f__law_shifted.nd
  have hu := hr.units
  have hu5 := units5 hr
  have tk := takes_of (X := cxOf (L2.CX P w) P w K mg base N_f__law_shifted "_law_shifted" (defScope s_f__law_shifted) f cdv A outer s H E) rfl rfl rfl rfl
  have hps := passes_of (X := cxOf (L2.CX P w) P w K mg base N_f__law_shifted "_law_shifted" (defScope s_f__law_shifted) f cdv A outer s H E) rfl
  exact sss_cons (ss_cel (i := 2) nd rfl (.inl rfl) (se_lst (sa_nil))) (sss_cons (ss_for hps rfl (si_range1 (by rfl) T.b_range (sa_cons (se_callB call_lenAll ok_len (by rfl) T.b_len PySem.boot_len (sa_cons (se_var (pv 0)) (sa_nil))) (sa_nil))) (sg_name (i := 3) nd rfl (.inl rfl)) (sss_one (ss_drop (se_bm PySem.F.plainAttrs_list PySem.F.slot_list_append PySem.F.type_list_append mt_append ok_append (se_var (pv 2)) (sa_cons (se_call c__law_form (hr.mono (by first | decide | omega)) tk rfl (sa_cons (se_ix (se_var (pv 0)) (se_var (pv 3)) (fun _ _ => rfl)) (sa_cons (se_if (st_cmpA op_ge ok_ge (se_var (pv 3)) (se_op op_mulAll ok_mul (se_int) (se_ix (se_var (pv 1)) (se_int) (fun _ _ => rfl))) (nomark _)) (se_ix (se_var (pv 1)) (se_int) (fun _ _ => rfl)) (seF (se_int))) (sa_nil)))) (sa_nil)))))) (sss_one (ss_ret (seF (se_callTy call_tuple_of ok_tup (by rfl) T.b_tuple (by decide +kernel) (sa_cons (se_var (pv 2)) (sa_nil)))))))
theorem cal_f__law_gone (T : Tx K mg base) : Cal P w K mg base 3 "_law_gone" 6 true f__law_gone := by
  have c__law_compared := cal_f__law_compared (P := P) (w := w) (base := base) T
  refine cal_of T.d__law_gone (fun F => F.bindsN fun _ _ _ _ _ _ us hl => match us, hl with | [_, _, _, _, _, _], _ => rfl) fun {f fd} F => def_ok F sc_f__law_gone rfl fun cdv A outer s H E hr => ?_
  have nd := sc_f__law_gone.nd
  have hu := hr.units
  have hu5 := units5 hr
  have tk := takes_of (X := cxOf (L2.CX P w) P w K mg base N_f__law_gone "_law_gone" (defScope s_f__law_gone) f cdv A outer s H E) rfl rfl rfl rfl
  have hps := passes_of (X := cxOf (L2.CX P w) P w K mg base N_f__law_gone "_law_gone" (defScope s_f__law_gone) f cdv A outer s H E) rfl
  exact sss_cons (ss_asgG (se_call c__law_compared (hr.mono (by first | decide | omega)) tk rfl (sa_cons (se_var (pv 1)) (sa_cons (se_var (pv 2)) (sa_cons (se_var (pv 3)) (sa_nil))))) (sgt_tup rfl (sgts_cons (sgt_name (i := 6) nd rfl (.inl rfl)) (sgts_cons (sgt_name (i := 7) nd rfl (.inl rfl)) (sgts_cons (sgt_name (i := 8) nd rfl (.inl rfl)) (sgts_cons (sgt_name (i := 9) nd rfl (.inl rfl)) (sgts_nil))))))) (sss_cons (ss_if (st_val (se_var (pv 5))) (sss_cons (ss_set (i := 10) nd rfl (.inl rfl) (se_tup (sa_cons (se_ix (se_var (pv 7)) (se_int) (fun _ _ => rfl)) (sa_cons (se_ix (se_var (pv 6)) (se_int) (fun _ _ => rfl)) (sa_cons (se_op op_sub ok_sub (se_ix (se_var (pv 7)) (se_int) (fun _ _ => rfl)) (se_ix (se_var (pv 6)) (se_int) (fun _ _ => rfl))) (sa_cons (se_bl) (sa_nil))))))) (sss_one (ss_ret (se_tup (sa_cons (se_op op_addAll ok_add (se_op op_addAll ok_add (se_sl (se_var (pv 3)) (so_none) (so_some (se_var (pv 8)))) (se_tup (sa_cons (se_var (pv 9)) (sa_nil)))) (se_sl (se_var (pv 3)) (so_some (se_op op_addAll ok_add (se_var (pv 8)) (se_int))) (so_none))) (sa_cons (se_op op_addAll ok_add (se_var (pv 4)) (se_lst (sa_cons (se_var (pv 10)) (sa_nil)))) (sa_nil))))))) (sss_nil)) (sss_one (ss_ret (se_tup (sa_cons (se_var (pv 3)) (sa_cons (se_op op_addAll ok_add (se_var (pv 4)) (se_lst (sa_cons (se_tup (sa_cons (se_ix (se_var (pv 6)) (se_int) (fun _ _ => rfl)) (sa_cons (se_ix (se_var (pv 7)) (se_int) (fun _ _ => rfl)) (sa_cons (se_op op_sub ok_sub (se_ix (se_var (pv 6)) (se_int) (fun _ _ => rfl)) (se_ix (se_var (pv 7)) (se_int) (fun _ _ => rfl))) (sa_cons (se_bl) (sa_nil)))))) (sa_nil)))) (sa_nil)))))))
theorem cal_f__law_first (T : Tx K mg base) : Cal P w K mg base 1 "_law_first" 1 true f__law_first := by
  refine cal_of T.d__law_first (fun F => F.bindsN fun _ _ _ _ _ _ us hl => match us, hl with | [_], _ => rfl) fun {f fd} F => def_ok F sc_f__law_first rfl fun cdv A outer s H E hr => ?_
  have nd := sc_f__law_first.nd
  have hu := hr.units
  have hu5 := units5 hr
  have tk := takes_of (X := cxOf (L2.CX P w) P w K mg base N_f__law_first "_law_first" (defScope s_f__law_first) f cdv A outer s H E) rfl rfl rfl rfl
  have hps := passes_of (X := cxOf (L2.CX P w) P w K mg base N_f__law_first "_law_first" (defScope s_f__law_first) f cdv A outer s H E) rfl
  exact sss_one (ss_ret (se_callTy call_tuple_of ok_tup (by rfl) T.b_tuple (by decide +kernel) (sa_cons (se_lc rfl nd (own := [("at", 1)]) (si_range1 (by rfl) T.b_range (sa_cons (se_op op_mulAll ok_mul (se_int) (se_var (pv 0))) (sa_nil))) (blkOk_by (N := N_f__law_first) (sc := defScope s_f__law_first) (by decide +kernel)) (fun _ _ _ _ _ => sg_name (i := 1) nd rfl (.inl rfl)) (fun _ _ _ _ _ => pts_yes) (fun _ _ _ _ _ => se_tup (sa_cons (se_var (pv 1)) (sa_cons (se_int) (sa_nil))))) (sa_nil))))
theorem cal_f__law_led (T : Tx K mg base) : Cal P w K mg base 4 "_law_led" 4 false f__law_led := by
  have c__law_first := cal_f__law_first (P := P) (w := w) (base := base) T
  have c__law_base := cal_f__law_base (P := P) (w := w) (base := base) T
  have c__law_tests := cal_f__law_tests (P := P) (w := w) (base := base) T
  have c__law_shifted := cal_f__law_shifted (P := P) (w := w) (base := base) T
  have c__law_gone := cal_f__law_gone (P := P) (w := w) (base := base) T
  refine cal_of T.d__law_led (fun F => F.bindsN fun _ _ _ _ _ _ us hl => match us, hl with | [_, _, _, _], _ => rfl) fun {f fd} F => def_okC F sc_f__law_led rfl fun cdv A outer s H E hr => ?_
  have nd := sc_f__law_led.nd
  have hu := hr.units
  have hu5 := units5 hr
  have tk := takes_of (X := cxOf (L2.CX P w) P w K mg base N_f__law_led "_law_led" (defScope s_f__law_led) f cdv A outer s H E) rfl rfl rfl rfl
  have hps := passes_of (X := cxOf (L2.CX P w) P w K mg base N_f__law_led "_law_led" (defScope s_f__law_led) f cdv A outer s H E) rfl
  exact sss_cons (ss_par3 (i := 4) (j := 5) (l := 6) rfl nd rfl rfl rfl (by decide) (by decide) (by decide) rfl rfl rfl (sp_cons (se_call c__law_first (hr.mono (by first | decide | omega)) tk rfl (sa_cons (se_var (pv 0)) (sa_nil))) (sp_cons (se_call c__law_base (hr.mono (by first | decide | omega)) tk rfl (sa_cons (se_var (pv 1)) (sa_nil))) (sp_cel (se_callTy call_list_of ok_lst (by rfl) T.b_list (by decide +kernel) (sa_cons (se_var (pv 3)) (sa_nil))) (sp_nil)))) rfl) (sss_cons (ss_for hps rfl (si_seq (se_var (pv 2))) (sg_name (i := 7) nd rfl (.inl rfl)) (sss_cons (ss_if (st_cmpA (op_eqD hu) ok_eq (se_ix (se_var (pv 7)) (se_int) (fun _ _ => rfl)) (se_str) (nomark _)) (sss_one (ss_set (i := 4) nd rfl (.inl rfl) (se_call c__law_shifted (hr.mono (by first | decide | omega)) tk rfl (sa_cons (se_var (pv 4)) (sa_cons (se_var (pv 7)) (sa_nil)))))) (sss_nil)) (sss_one (ss_for hps rfl (si_seq (se_call c__law_tests (hr.mono (by first | decide | omega)) tk rfl (sa_cons (se_ix (se_var (pv 7)) (se_int) (fun _ _ => rfl)) (sa_cons (se_var (pv 0)) (sa_nil))))) (sg_name (i := 8) nd rfl (.inl rfl)) (sss_one (ss_asgG (se_call c__law_gone (hr.mono (by first | decide | omega)) tk rfl (sa_cons (se_var (pv 0)) (sa_cons (se_var (pv 7)) (sa_cons (se_var (pv 8)) (sa_cons (se_var (pv 4)) (sa_cons (se_var (pv 5)) (sa_cons (se_bm PySem.F.plainAttrs_list PySem.F.slot_list_pop PySem.F.type_list_pop mt_popAt ok_pop0 (se_var (pv 6)) (sa_cons (se_int) (sa_nil))) (sa_nil)))))))) (sgt_tup rfl (sgts_cons (sgt_name (i := 4) nd rfl (.inl rfl)) (sgts_cons (sgt_name (i := 5) nd rfl (.inl rfl)) (sgts_nil)))))))))) (sss_one (ss_ret (seF (se_tup (sa_cons (se_var (pv 4)) (sa_cons (se_var (pv 5)) (sa_nil))))))))
theorem cal_f__law_drawn_word (T : Tx K mg base) : Cal P w K mg base 2 "_law_drawn_word" 3 false f__law_drawn_word := by
  have c__law_dip := cal_f__law_dip (P := P) (w := w) (base := base) T
  have c__law_tests := cal_f__law_tests (P := P) (w := w) (base := base) T
  refine cal_of T.d__law_drawn_word (fun F => F.bindsN fun _ _ _ _ _ _ us hl => match us, hl with | [_, _, _], _ => rfl) fun {f fd} F => def_ok F sc_f__law_drawn_word rfl fun cdv A outer s H E hr => ?_
  have nd := sc_f__law_drawn_word.nd
  have hu := hr.units
  have hu5 := units5 hr
  have tk := takes_of (X := cxOf (L2.CX P w) P w K mg base N_f__law_drawn_word "_law_drawn_word" (defScope s_f__law_drawn_word) f cdv A outer s H E) rfl rfl rfl rfl
  have hps := passes_of (X := cxOf (L2.CX P w) P w K mg base N_f__law_drawn_word "_law_drawn_word" (defScope s_f__law_drawn_word) f cdv A outer s H E) rfl
  exact sss_cons (ss_set (i := 3) nd rfl (.inl rfl) (se_tup (sa_nil))) (sss_cons (ss_for hps rfl (si_seq (se_var (pv 2))) (sg_name (i := 4) nd rfl (.inl rfl)) (sss_one (ss_set (i := 3) nd rfl (.inl rfl) (se_op op_addAll ok_add (se_var (pv 3)) (se_callTy call_tuple_of ok_tup (by rfl) T.b_tuple (by decide +kernel) (sa_cons (se_lc rfl nd (own := [("cue", 5)]) (si_seq (se_call c__law_tests (hr.mono (by first | decide | omega)) tk rfl (sa_cons (se_ix (se_var (pv 4)) (se_int) (fun _ _ => rfl)) (sa_cons (se_var (pv 1)) (sa_nil))))) (blkOk_by (N := N_f__law_drawn_word) (sc := defScope s_f__law_drawn_word) (by decide +kernel)) (fun _ _ _ _ _ => sg_name (i := 5) nd rfl (.inl rfl)) (fun _ _ _ _ _ => pts_yes) (fun _ _ _ _ _ => se_cmp (op_eqD hu) ok_eq (se_call c__law_dip (hr.mono (by first | decide | omega)) takes0 rfl (sa_cons (se_var (pv 0)) (sa_cons (se_int) (sa_nil)))) (se_int) (nomark _))) (sa_nil))))))) (sss_one (ss_ret (se_var (pv 3)))))
theorem cal_f__law_drawn_ring (T : Tx K mg base) : Cal P w K mg base 3 "_law_drawn_ring" 2 false f__law_drawn_ring := by
  have c__law_dip := cal_f__law_dip (P := P) (w := w) (base := base) T
  have c__law_any := cal_f__law_any (P := P) (w := w) (base := base) T
  refine cal_of T.d__law_drawn_ring (fun F => F.bindsN fun _ _ _ _ _ _ us hl => match us, hl with | [_, _], _ => rfl) fun {f fd} F => def_okC F sc_f__law_drawn_ring rfl fun cdv A outer s H E hr => ?_
  have nd := sc_f__law_drawn_ring.nd
  have hu := hr.units
  have hu5 := units5 hr
  have tk := takes_of (X := cxOf (L2.CX P w) P w K mg base N_f__law_drawn_ring "_law_drawn_ring" (defScope s_f__law_drawn_ring) f cdv A outer s H E) rfl rfl rfl rfl
  have hps := passes_of (X := cxOf (L2.CX P w) P w K mg base N_f__law_drawn_ring "_law_drawn_ring" (defScope s_f__law_drawn_ring) f cdv A outer s H E) rfl
  exact sss_cons (ss_cel (i := 2) nd rfl (.inr rfl) (se_lst (sa_cons (se_call c__law_dip (hr.mono (by first | decide | omega)) tk rfl (sa_cons (se_var (pv 0)) (sa_cons (se_callB call_lenAll ok_len (by rfl) T.b_len PySem.boot_len (sa_cons (se_var (pv 1)) (sa_nil))) (sa_nil)))) (sa_nil)))) (sss_cons (ss_for hps rfl (si_range1 (by rfl) T.b_range (sa_cons (se_call c__law_dip (hr.mono (by first | decide | omega)) tk rfl (sa_cons (se_var (pv 0)) (sa_cons (se_int) (sa_nil)))) (sa_nil))) (sg_name (i := 3) nd rfl (.inl rfl)) (sss_cons (ss_if (st_cmpA (op_eqD hu) ok_eq (se_ix (se_ix (se_var (pv 1)) (se_ix (se_var (pv 2)) (se_un un_neg ok_neg (se_int)) (fun _ _ => rfl)) (fun _ _ => rfl)) (se_int) (fun _ _ => rfl)) (se_ix (se_ix (se_var (pv 1)) (se_ix (se_var (pv 2)) (se_int) (fun _ _ => rfl)) (fun _ _ => rfl)) (se_int) (fun _ _ => rfl)) (nomark _)) (sss_one (ss_ret (seF (se_callTy call_tuple_of ok_tup (by rfl) T.b_tuple (by decide +kernel) (sa_cons (se_var (pv 2)) (sa_nil)))))) (sss_nil)) (sss_cons (ss_setLc (i := 4) rfl nd rfl rfl (sw_true rfl rfl rfl (by decide +kernel)) (own := [("at", 5)]) (si_range1 (by rfl) T.b_range (sa_cons (se_callB call_lenAll ok_len (by rfl) T.b_len PySem.boot_len (sa_cons (se_var (pv 1)) (sa_nil))) (sa_nil))) (blkOk_by (N := N_f__law_drawn_ring) (sc := defScope s_f__law_drawn_ring) (by decide +kernel)) (fun _ _ _ _ _ => sg_name (i := 5) nd rfl (.inl rfl)) (fun _ _ _ _ _ => pts_if (st_cmpA (op_eqD hu) ok_eq (se_ix (se_ix (se_var (pv 1)) (se_var (pv 5)) (fun _ _ => rfl)) (se_int) (fun _ _ => rfl)) (se_ix (se_ix (se_var (pv 1)) (se_ix (se_var (pv 2)) (se_un un_neg ok_neg (se_int)) (fun _ _ => rfl)) (fun _ _ => rfl)) (se_int) (fun _ _ => rfl)) (nomark _))) (fun _ _ _ _ _ => se_var (pv 5))) (sss_cons (ss_if (st_cmpA (op_eqD hu) ok_eq (se_var (pv 4)) (se_lst (sa_nil)) (nomark _)) (sss_one (ss_ret (seF (se_callTy call_tuple_of ok_tup (by rfl) T.b_tuple (by decide +kernel) (sa_cons (se_var (pv 2)) (sa_nil)))))) (sss_nil)) (sss_one (ss_drop (se_bm PySem.F.plainAttrs_list PySem.F.slot_list_append PySem.F.type_list_append mt_append ok_append (se_var (pv 2)) (sa_cons (se_call c__law_any (hr.mono (by first | decide | omega)) tk rfl (sa_cons (se_var (pv 0)) (sa_cons (se_var (pv 4)) (sa_nil)))) (sa_nil))))))))) (sss_one (ss_ret (seF (se_callTy call_tuple_of ok_tup (by rfl) T.b_tuple (by decide +kernel) (sa_cons (se_var (pv 2)) (sa_nil)))))))
theorem cal_f__law_due (T : Tx K mg base) : Cal P w K mg base 1 "_law_due" 2 true f__law_due := by
  refine cal_of T.d__law_due (fun F => F.bindsN fun _ _ _ _ _ _ us hl => match us, hl with | [_, _], _ => rfl) fun {f fd} F => def_ok F sc_f__law_due rfl fun cdv A outer s H E hr => ?_
  have nd := sc_f__law_due.nd
  have hu := hr.units
  have hu5 := units5 hr
  have tk := takes_of (X := cxOf (L2.CX P w) P w K mg base N_f__law_due "_law_due" (defScope s_f__law_due) f cdv A outer s H E) rfl rfl rfl rfl
  have hps := passes_of (X := cxOf (L2.CX P w) P w K mg base N_f__law_due "_law_due" (defScope s_f__law_due) f cdv A outer s H E) rfl
  exact sss_cons (ss_for hps rfl (si_zip (by rfl) T.b_zip (sa_cons (se_var (pv 1)) (sa_cons (se_op op_addAll ok_add (se_sl (se_var (pv 1)) (so_some (se_int)) (so_none)) (se_sl (se_var (pv 1)) (so_none) (so_some (se_int)))) (sa_nil)))) (sg_tup rfl (sgs_cons (sg_name (i := 2) nd rfl (.inl rfl)) (sgs_cons (sg_name (i := 3) nd rfl (.inl rfl)) (sgs_nil)))) (sss_one (ss_if (st_cmpA (op_neD hu) ok_ne (se_ix (se_ix (se_var (pv 0)) (se_var (pv 2)) (fun _ _ => rfl)) (se_int) (fun _ _ => rfl)) (se_ix (se_ix (se_var (pv 0)) (se_var (pv 3)) (fun _ _ => rfl)) (se_int) (fun _ _ => rfl)) (nomark _)) (sss_one (ss_ret (se_non))) (sss_nil)))) (sss_cons (ss_set (i := 4) nd rfl (.inl rfl) (se_callB (cr_sum rfl) ok_sum (by rfl) T.b_sum (by decide +kernel) (sa_cons (se_lc rfl nd (own := [("at", 5)]) (si_seq (se_var (pv 1))) (blkOk_by (N := N_f__law_due) (sc := defScope s_f__law_due) (by decide +kernel)) (fun _ _ _ _ _ => sg_name (i := 5) nd rfl (.inl rfl)) (fun _ _ _ _ _ => pts_yes) (fun _ _ _ _ _ => se_ix (se_ix (se_var (pv 0)) (se_var (pv 5)) (fun _ _ => rfl)) (se_int) (fun _ _ => rfl))) (sa_nil)))) (sss_one (ss_ret (se_or (se_cmp op_gt ok_gt (se_var (pv 4)) (se_int) (nomark _)) (se_one (se_and (se_cmp (op_eqD hu) ok_eq (se_var (pv 4)) (se_int) (nomark _)) (se_one (se_cmp (op_inAll hu5) ok_in (se_bl) (se_lc rfl nd (own := [("at", 5)]) (si_seq (se_var (pv 1))) (blkOk_by (N := N_f__law_due) (sc := defScope s_f__law_due) (by decide +kernel)) (fun _ _ _ _ _ => sg_name (i := 5) nd rfl (.inl rfl)) (fun _ _ _ _ _ => pts_yes) (fun _ _ _ _ _ => se_ix (se_ix (se_var (pv 0)) (se_var (pv 5)) (fun _ _ => rfl)) (se_int) (fun _ _ => rfl))) (by rfl)))))))))
theorem cal_f__law_rings_right (T : Tx K mg base) : Cal P w K mg base 9 "_law_rings_right" 5 true f__law_rings_right := by
  have c__law_drawn_ring := cal_f__law_drawn_ring (P := P) (w := w) (base := base) T
  have c__law_due := cal_f__law_due (P := P) (w := w) (base := base) T
  have c_is_ring := cal_f_is_ring (P := P) (w := w) (base := base) T
  obtain ⟨f, fd, c, Pt, F, hm, LL⟩ := T.l__law_rings_right
  refine ⟨f, fd, P_f__law_rings_right, ?_, hm, F.kp, (fun F => F.bindsN fun _ _ _ _ _ _ us hl => match us, hl with | [_, _, _, _, _], _ => rfl) F⟩
  refine def_okL F LL sc_f__law_rings_right rfl fun cdv A outer s H E LA hr => ?_
  have nd := sc_f__law_rings_right.nd
  have hu := hr.units
  have hu5 := units5 hr
  have tk := takes_of (X := cxOf (L2.CX P w) P w K mg base N_f__law_rings_right "_law_rings_right" (defScope s_f__law_rings_right) f cdv A outer s H E) rfl rfl rfl rfl
  have hps := passes_of (X := cxOf (L2.CX P w) P w K mg base N_f__law_rings_right "_law_rings_right" (defScope s_f__law_rings_right) f cdv A outer s H E) rfl
  exact sss_cons (ss_for hps rfl (si_range1 (by rfl) T.b_range (sa_cons (se_int) (sa_nil))) (sg_name (i := 5) nd rfl (.inl rfl)) (sss_cons (ss_if (st_cmpA (op_eqD hu) ok_eq (se_var (pv 4)) (se_lst (sa_nil)) (nomark _)) (sss_one (ss_ret (se_bl))) (sss_nil)) (sss_cons (ss_set (i := 6) nd rfl (.inr rfl) (se_call c__law_drawn_ring (hr.mono (by first | decide | omega)) tk rfl (sa_cons (se_var (pv 0)) (sa_cons (se_var (pv 4)) (sa_nil))))) (sss_cons (ss_set (i := 7) nd rfl (.inl rfl) (se_call c__law_due (hr.mono (by first | decide | omega)) tk rfl (sa_cons (se_var (pv 4)) (sa_cons (se_var (pv 6)) (sa_nil))))) (sss_cons (ss_if (st_cmpA (op_neD hu) ok_ne (se_lamF (k := 6) (fr := true) (T.c__law_told) T.d__law_told (fun F => F.bindsN fun _ _ _ _ _ _ us hl => match us, hl with | [_], _ => rfl) sc__law_told rfl (.inl rfl) (by first | rfl | decide +kernel) (fun g cdv => giv__law_told T) LA rfl (hr.mono (by first | decide | omega)) (LamX.lamS_by (sc := defScope s_f__law_rings_right) (by decide +kernel)) rfl (fun _ _ _ _ _ => rfl) (fun A2 outer2 s2 H2 E2 f2 c2 hr => have hu := hr.units; have hu5 := units5 hr; have tk := takes_of (X := LamX.lamCx _ A2 outer2 s2 H2 E2 _ f2 c2) rfl rfl rfl rfl; se_call c_is_ring (hr.mono (by first | decide | omega)) tk rfl (sa_cons (se_var (pv 1)) (sa_cons (se_var (pv 2)) (sa_cons (se_var (pv 3)) (sa_cons (se_var (pv 6)) (sa_nil))))))) (se_if (st_cmpA op_isN ok_isN (se_var (pv 7)) (se_non) (nomark _)) (seF (se_str)) (se_var (pv 7))) (nomark _)) (sss_one (ss_ret (se_bl))) (sss_nil)) (sss_one (ss_for hps rfl (si_seq (se_lst (sa_cons (se_non) (sa_cons (se_tup (sa_nil)) (sa_cons (se_callTy call_list_of ok_lst (by rfl) T.b_list (by decide +kernel) (sa_cons (se_var (pv 6)) (sa_nil))) (sa_cons (se_tup (sa_cons (se_un un_neg ok_neg (se_int)) (sa_nil))) (sa_cons (se_tup (sa_cons (se_callB call_lenAll ok_len (by rfl) T.b_len PySem.boot_len (sa_cons (se_var (pv 4)) (sa_nil))) (sa_nil))) (sa_cons (se_tup (sa_cons (se_bl) (sa_nil))) (sa_cons (se_sl (se_op op_mulAll ok_mul (se_var (pv 6)) (se_int)) (so_none) (so_some (se_int))) (sa_nil)))))))))) (sg_name (i := 8) nd rfl (.inr rfl)) (sss_one (ss_if (st_cmpA (op_neD hu) ok_ne (se_lamF (k := 6) (fr := true) (T.c__law_told) T.d__law_told (fun F => F.bindsN fun _ _ _ _ _ _ us hl => match us, hl with | [_], _ => rfl) sc__law_told rfl (.inl rfl) (by first | rfl | decide +kernel) (fun g cdv => giv__law_told T) LA rfl (hr.mono (by first | decide | omega)) (LamX.lamS_by (sc := defScope s_f__law_rings_right) (by decide +kernel)) rfl (fun _ _ _ _ _ => rfl) (fun A2 outer2 s2 H2 E2 f2 c2 hr => have hu := hr.units; have hu5 := units5 hr; have tk := takes_of (X := LamX.lamCx _ A2 outer2 s2 H2 E2 _ f2 c2) rfl rfl rfl rfl; se_call c_is_ring (hr.mono (by first | decide | omega)) tk rfl (sa_cons (se_var (pv 1)) (sa_cons (se_var (pv 2)) (sa_cons (se_var (pv 3)) (sa_cons (se_var (pv 8)) (sa_nil))))))) (se_str) (nomark _)) (sss_one (ss_ret (se_bl))) (sss_nil)))))))))) (sss_one (ss_ret (se_bl)))
theorem cal_law_dummy : True := trivial
theorem fn_f_law (T : Tx K mg base) {f : Addr} {fd : FuncData} (F : FunD K "law" "law" (defArgs s_f_law) (defBody s_f_law) (defScope s_f_law) [] [] f fd) {c Pt : Addr} (LL : LamAt K mg base "law.<locals>.<lambda>" fd.code c Pt) : FnOk P w K mg base (L2.CX P w) 10 f fd P_f_law (spD K mg 1 false f_law) := by
  have c__law_jar := cal_f__law_jar (P := P) (w := w) (base := base) T
  have c_forms := cal_f_forms (P := P) (w := w) (base := base) T
  have c_rows := cal_f_rows (P := P) (w := w) (base := base) T
  have c_is_ring := cal_f_is_ring (P := P) (w := w) (base := base) T
  have c__law_drawn_word := cal_f__law_drawn_word (P := P) (w := w) (base := base) T
  have c__law_led := cal_f__law_led (P := P) (w := w) (base := base) T
  have c__law_dip := cal_f__law_dip (P := P) (w := w) (base := base) T
  have c__law_book := cal_f__law_book (P := P) (w := w) (base := base) T
  have c__law_steps := cal_f__law_steps (P := P) (w := w) (base := base) T
  have c__law_rings_right := cal_f__law_rings_right (P := P) (w := w) (base := base) T
  refine def_okLC F LL sc_f_law rfl fun cdv A outer s H E LA hr => ?_
  have nd := sc_f_law.nd
  have hu := hr.units
  have hu5 := units5 hr
  have tk := takes_of (X := cxOf (L2.CX P w) P w K mg base N_f_law "law" (defScope s_f_law) f cdv A outer s H E) rfl rfl rfl rfl
  have hps := passes_of (X := cxOf (L2.CX P w) P w K mg base N_f_law "law" (defScope s_f_law) f cdv A outer s H E) rfl
  exact sss_cons (ss_for hps rfl (si_range1 (by rfl) T.b_range (sa_cons (se_callB (call_max2 rfl) ok_max2 (by rfl) T.b_max (by decide +kernel) (sa_cons (se_int) (sa_cons (se_callB (call_min2 rfl) ok_min2 (by rfl) T.b_min (by decide +kernel) (sa_cons (se_int) (sa_cons (se_op op_addAll ok_add (se_callB call_lenAll ok_len (by rfl) T.b_len PySem.boot_len (sa_cons (se_var (pv 0)) (sa_nil))) (se_int)) (sa_nil)))) (sa_nil)))) (sa_nil))) (sg_name (i := 1) nd rfl (.inl rfl)) (sss_cons (ss_cel (i := 2) nd rfl (.inl rfl) (se_call c__law_jar (hr.mono (by first | decide | omega)) tk rfl (sa_cons (se_var (pv 0)) (sa_cons (se_var (pv 1)) (sa_nil))))) (sss_one (ss_for hps rfl (si_range1 (by rfl) T.b_range (sa_cons (se_int) (sa_nil))) (sg_name (i := 3) nd rfl (.inl rfl)) (sss_cons (ss_set (i := 4) nd rfl (.inl rfl) (se_op op_addAll ok_add (se_int) (se_call c__law_dip (hr.mono (by first | decide | omega)) tk rfl (sa_cons (se_var (pv 2)) (sa_cons (se_int) (sa_nil)))))) (sss_cons (ss_asgG (se_tup (sa_cons (se_call c__law_book (hr.mono (by first | decide | omega)) tk rfl (sa_cons (se_var (pv 2)) (sa_cons (se_var (pv 4)) (sa_cons (se_int) (sa_nil))))) (sa_cons (se_call c__law_steps (hr.mono (by first | decide | omega)) tk rfl (sa_cons (se_var (pv 2)) (sa_cons (se_var (pv 4)) (sa_cons (se_int) (sa_nil))))) (sa_nil)))) (sgt_tup rfl (sgts_cons (sgt_name (i := 5) nd rfl (.inr rfl)) (sgts_cons (sgt_name (i := 6) nd rfl (.inr rfl)) (sgts_nil))))) (sss_cons (ss_set (i := 7) nd rfl (.inl rfl) (se_call c__law_drawn_word (hr.mono (by first | decide | omega)) tk rfl (sa_cons (se_var (pv 2)) (sa_cons (se_var (pv 4)) (sa_cons (se_var (pv 6)) (sa_nil)))))) (sss_cons (ss_asgG (se_call c__law_led (hr.mono (by first | decide | omega)) tk rfl (sa_cons (se_var (pv 4)) (sa_cons (se_ix (se_var (pv 5)) (se_int) (fun _ _ => rfl)) (sa_cons (se_var (pv 6)) (sa_cons (se_var (pv 7)) (sa_nil)))))) (sgt_tup rfl (sgts_cons (sgt_name (i := 8) nd rfl (.inl rfl)) (sgts_cons (sgt_name (i := 9) nd rfl (.inl rfl)) (sgts_nil))))) (sss_cons (ss_if (SW.st (sw_or (st_cmpA (op_neD hu) ok_ne (se_call c_forms (hr.mono (by first | decide | omega)) tk rfl (sa_cons (se_var (pv 5)) (sa_cons (se_var (pv 6)) (sa_cons (se_var (pv 7)) (sa_nil))))) (se_var (pv 8)) (nomark _)) (sw_or1 (st_cmpA (op_neD hu) ok_ne (se_call c_rows (hr.mono (by first | decide | omega)) tk rfl (sa_cons (se_var (pv 5)) (sa_cons (se_var (pv 6)) (sa_cons (se_var (pv 7)) (sa_nil))))) (se_var (pv 9)) (nomark _))))) (sss_one (ss_ret (seF (se_bl)))) (sss_nil)) (sss_cons (ss_if (st_cmpA (op_neD hu) ok_ne (se_lc rfl nd (own := [("row", 10)]) (si_seq (se_call c_rows (hr.mono (by first | decide | omega)) tk rfl (sa_cons (se_var (pv 5)) (sa_cons (se_var (pv 6)) (sa_cons (se_var (pv 7)) (sa_nil)))))) (blkOk_by (N := N_f_law) (sc := defScope s_f_law) (by decide +kernel)) (fun _ _ _ _ _ => sg_name (i := 10) nd rfl (.inl rfl)) (fun _ _ _ _ _ => pts_if (st_not (st_val (se_callB call_isi ok_isi (by rfl) T.b_isinstance (by decide +kernel) (sa_cons (se_ix (se_var (pv 10)) (se_int) (fun _ _ => rfl)) (sa_cons (se_ty (by rfl) T.b_bool (by decide +kernel)) (sa_nil))))))) (fun _ _ _ _ _ => se_var (pv 10))) (se_lst (sa_nil)) (nomark _)) (sss_one (ss_ret (seF (se_bl)))) (sss_nil)) (sss_cons (ss_if (st_not (st_val (se_call c__law_rings_right (hr.mono (by first | decide | omega)) tk rfl (sa_cons (se_var (pv 2)) (sa_cons (se_var (pv 5)) (sa_cons (se_var (pv 6)) (sa_cons (se_var (pv 7)) (sa_cons (se_var (pv 9)) (sa_nil))))))))) (sss_one (ss_ret (seF (se_bl)))) (sss_nil)) (sss_one (ss_for hps rfl (si_seq (se_lst (sa_cons (se_non) (sa_cons (se_callTy call_list_of ok_lst (by rfl) T.b_list (by decide +kernel) (sa_cons (se_var (pv 7)) (sa_nil))) (sa_cons (se_op op_addAll ok_add (se_var (pv 7)) (se_tup (sa_cons (se_bl) (sa_nil)))) (sa_cons (se_op op_addAll ok_add (se_tup (sa_cons (se_str) (sa_nil))) (se_var (pv 7))) (sa_cons (se_op op_addAll ok_add (se_callTy call_tuple_of ok_tup (by rfl) T.b_tuple (by decide +kernel) (sa_cons (se_lc rfl nd (own := [("late", 12)]) (si_seq (se_var (pv 7))) (blkOk_by (N := N_f_law) (sc := defScope s_f_law) (by decide +kernel)) (fun _ _ _ _ _ => sg_name (i := 12) nd rfl (.inl rfl)) (fun _ _ _ _ _ => pts_yes) (fun _ _ _ _ _ => se_int)) (sa_nil))) (se_tup (sa_cons (se_bl) (sa_nil)))) (sa_nil)))))))) (sg_name (i := 11) nd rfl (.inr rfl)) (sss_one (ss_for hps rfl (si_seq (se_lst (sa_cons (se_fn rfl T.g_forms) (sa_cons (se_fn rfl T.g_rows) (sa_nil))))) (sg_name (i := 13) nd rfl (.inr rfl)) (sss_one (ss_if (st_cmpA (op_neD hu) ok_ne (se_lamF (k := 6) (fr := false) (T.c__law_told) T.d__law_told (fun F => F.bindsN fun _ _ _ _ _ _ us hl => match us, hl with | [_], _ => rfl) sc__law_told rfl (.inl rfl) (by first | rfl | decide +kernel) (fun g cdv => giv__law_told T) LA rfl (hr.mono (by first | decide | omega)) (LamX.lamS_by (sc := defScope s_f_law) (by decide +kernel)) rfl (fun _ _ _ _ _ => rfl) (fun A2 outer2 s2 H2 E2 f2 c2 hr => have hu := hr.units; have hu5 := units5 hr; have tk := takes_of (X := LamX.lamCx _ A2 outer2 s2 H2 E2 _ f2 c2) rfl rfl rfl rfl; se_callV (k := 6) (i := 13) (calT (calT_cons (c_forms.mono (by omega)) (calT_cons (c_rows.mono (by omega)) calT_nil))) (hr.mono (by first | decide | omega)) tk (fun _ _ _ _ _ h => h) rfl (by first | exact .inl rfl | exact .inr (.inl rfl) | exact .inr (.inr rfl)) (sa_cons (se_var (pv 5)) (sa_cons (se_var (pv 6)) (sa_cons (se_var (pv 11)) (sa_nil)))))) (se_str) (nomark _)) (sss_one (ss_ret (seF (se_bl)))) (sss_nil)))))))))))))))))) (sss_cons (ss_asgG (se_tup (sa_cons (se_tup (sa_cons (se_int) (sa_cons (se_tup (sa_cons (se_tup (sa_cons (se_int) (sa_cons (se_int) (sa_cons (se_int) (sa_nil))))) (sa_cons (se_tup (sa_cons (se_int) (sa_cons (se_int) (sa_cons (se_int) (sa_nil))))) (sa_cons (se_tup (sa_cons (se_int) (sa_cons (se_int) (sa_cons (se_int) (sa_nil))))) (sa_nil))))) (sa_nil)))) (sa_cons (se_tup (sa_cons (se_tup (sa_cons (se_str) (sa_cons (se_int) (sa_nil)))) (sa_nil))) (sa_nil)))) (sgt_tup rfl (sgts_cons (sgt_name (i := 14) nd rfl (.inl rfl)) (sgts_cons (sgt_name (i := 12) nd rfl (.inl rfl)) (sgts_nil))))) (sss_cons (ss_set (i := 15) nd rfl (.inl rfl) (se_tup (sa_cons (se_tup (sa_cons (se_str) (sa_cons (se_int) (sa_cons (se_int) (sa_nil))))) (sa_cons (se_tup (sa_cons (se_str) (sa_cons (se_int) (sa_nil)))) (sa_cons (se_tup (sa_cons (se_str) (sa_cons (se_int) (sa_nil)))) (sa_nil)))))) (sss_cons (ss_if (st_cmpA (op_neD hu) ok_ne (se_call c_forms (hr.mono (by first | decide | omega)) tk rfl (sa_cons (se_tup (sa_cons (se_int) (sa_cons (se_tup (sa_nil)) (sa_nil)))) (sa_cons (se_var (pv 12)) (sa_cons (se_tup (sa_cons (se_bl) (sa_nil))) (sa_nil))))) (se_tup (sa_cons (se_tup (sa_cons (se_int) (sa_cons (se_int) (sa_nil)))) (sa_cons (se_tup (sa_cons (se_int) (sa_cons (se_int) (sa_nil)))) (sa_cons (se_tup (sa_cons (se_int) (sa_cons (se_int) (sa_nil)))) (sa_cons (se_tup (sa_cons (se_int) (sa_cons (se_int) (sa_nil)))) (sa_nil)))))) (nomark _)) (sss_one (ss_ret (seF (se_bl)))) (sss_nil)) (sss_cons (ss_if (st_cmpA (op_neD hu) ok_ne (se_call c_forms (hr.mono (by first | decide | omega)) tk rfl (sa_cons (se_tup (sa_cons (se_int) (sa_cons (se_tup (sa_nil)) (sa_nil)))) (sa_cons (se_var (pv 15)) (sa_cons (se_tup (sa_cons (se_bl) (sa_cons (se_bl) (sa_cons (se_bl) (sa_nil))))) (sa_nil))))) (se_tup (sa_cons (se_tup (sa_cons (se_int) (sa_cons (se_int) (sa_nil)))) (sa_cons (se_tup (sa_cons (se_int) (sa_cons (se_int) (sa_nil)))) (sa_cons (se_tup (sa_cons (se_int) (sa_cons (se_int) (sa_nil)))) (sa_cons (se_tup (sa_cons (se_int) (sa_cons (se_int) (sa_nil)))) (sa_nil)))))) (nomark _)) (sss_one (ss_ret (seF (se_bl)))) (sss_nil)) (sss_cons (ss_if (st_cmpA (op_neD hu) ok_ne (se_call c_rows (hr.mono (by first | decide | omega)) tk rfl (sa_cons (se_var (pv 14)) (sa_cons (se_var (pv 12)) (sa_cons (se_tup (sa_cons (se_bl) (sa_nil))) (sa_nil))))) (se_lst (sa_cons (se_tup (sa_cons (se_int) (sa_cons (se_int) (sa_cons (se_int) (sa_cons (se_bl) (sa_nil)))))) (sa_cons (se_tup (sa_cons (se_int) (sa_cons (se_int) (sa_cons (se_int) (sa_cons (se_bl) (sa_nil)))))) (sa_cons (se_tup (sa_cons (se_int) (sa_cons (se_int) (sa_cons (se_int) (sa_cons (se_bl) (sa_nil)))))) (sa_cons (se_tup (sa_cons (se_int) (sa_cons (se_int) (sa_cons (se_un un_neg ok_neg (se_int)) (sa_cons (se_bl) (sa_nil)))))) (sa_nil)))))) (nomark _)) (sss_one (ss_ret (seF (se_bl)))) (sss_nil)) (sss_cons (ss_if (st_cmpA (op_neD hu) ok_ne (se_call c_rows (hr.mono (by first | decide | omega)) tk rfl (sa_cons (se_tup (sa_cons (se_int) (sa_cons (se_tup (sa_nil)) (sa_nil)))) (sa_cons (se_tup (sa_cons (se_tup (sa_cons (se_str) (sa_cons (se_int) (sa_nil)))) (sa_nil))) (sa_cons (se_tup (sa_cons (se_bl) (sa_cons (se_bl) (sa_nil)))) (sa_nil))))) (se_lst (sa_cons (se_tup (sa_cons (se_int) (sa_cons (se_int) (sa_cons (se_int) (sa_cons (se_bl) (sa_nil)))))) (sa_cons (se_tup (sa_cons (se_int) (sa_cons (se_int) (sa_cons (se_un un_neg ok_neg (se_int)) (sa_cons (se_bl) (sa_nil)))))) (sa_nil)))) (nomark _)) (sss_one (ss_ret (seF (se_bl)))) (sss_nil)) (sss_cons (ss_if (st_cmpA (op_neD hu) ok_ne (se_call c_rows (hr.mono (by first | decide | omega)) tk rfl (sa_cons (se_tup (sa_cons (se_int) (sa_cons (se_tup (sa_nil)) (sa_nil)))) (sa_cons (se_tup (sa_cons (se_tup (sa_cons (se_str) (sa_cons (se_int) (sa_nil)))) (sa_nil))) (sa_cons (se_tup (sa_cons (se_bl) (sa_nil))) (sa_nil))))) (se_lst (sa_cons (se_tup (sa_cons (se_int) (sa_cons (se_int) (sa_cons (se_int) (sa_cons (se_bl) (sa_nil)))))) (sa_nil))) (nomark _)) (sss_one (ss_ret (seF (se_bl)))) (sss_nil)) (sss_cons (ss_set (i := 16) nd rfl (.inl rfl) (se_lst (sa_cons (se_call c_is_ring (hr.mono (by first | decide | omega)) tk rfl (sa_cons (se_var (pv 14)) (sa_cons (se_tup (sa_cons (se_tup (sa_cons (se_str) (sa_cons (se_int) (sa_nil)))) (sa_nil))) (sa_cons (se_tup (sa_cons (se_bl) (sa_nil))) (sa_cons (se_tup (sa_cons (se_int) (sa_cons (se_int) (sa_nil)))) (sa_nil)))))) (sa_cons (se_call c_is_ring (hr.mono (by first | decide | omega)) tk rfl (sa_cons (se_tup (sa_cons (se_int) (sa_cons (se_tup (sa_cons (se_tup (sa_cons (se_int) (sa_cons (se_int) (sa_cons (se_int) (sa_nil))))) (sa_cons (se_tup (sa_cons (se_int) (sa_cons (se_int) (sa_cons (se_un un_neg ok_neg (se_int)) (sa_nil))))) (sa_nil)))) (sa_nil)))) (sa_cons (se_tup (sa_nil)) (sa_cons (se_tup (sa_nil)) (sa_cons (se_tup (sa_cons (se_int) (sa_cons (se_int) (sa_nil)))) (sa_nil)))))) (sa_nil))))) (sss_one (ss_ret (seF (se_cmp (op_eqD hu) ok_eq (se_op op_addAll ok_add (se_var (pv 16)) (se_lst (sa_cons (se_call c_is_ring (hr.mono (by first | decide | omega)) tk rfl (sa_cons (se_tup (sa_cons (se_int) (sa_cons (se_tup (sa_cons (se_tup (sa_cons (se_int) (sa_cons (se_int) (sa_cons (se_int) (sa_nil))))) (sa_cons (se_tup (sa_cons (se_int) (sa_cons (se_int) (sa_cons (se_un un_neg ok_neg (se_int)) (sa_nil))))) (sa_nil)))) (sa_nil)))) (sa_cons (se_tup (sa_nil)) (sa_cons (se_tup (sa_nil)) (sa_cons (se_tup (sa_cons (se_int) (sa_cons (se_int) (sa_nil)))) (sa_nil)))))) (sa_nil)))) (se_lst (sa_cons (se_bl) (sa_cons (se_bl) (sa_cons (se_bl) (sa_nil))))) (nomark _)))))))))))))
end
end G

end
section
namespace G
open PySem PySem.Spec PyProof.Rows L2
def D_f_is_from : He.DefD := ⟨("is_from", none), "is_from", "is_from", defArgs s_f_is_from, defBody s_f_is_from, defScope s_f_is_from, [], []⟩
def D_f_lowest : He.DefD := ⟨("lowest", none), "lowest", "lowest", defArgs s_f_lowest, defBody s_f_lowest, defScope s_f_lowest, [], []⟩
def D_f_is_gap : He.DefD := ⟨("is_gap", none), "is_gap", "is_gap", defArgs s_f_is_gap, defBody s_f_is_gap, defScope s_f_is_gap, [], []⟩
def D_f_is_good_book : He.DefD := ⟨("is_good_book", none), "is_good_book", "is_good_book", defArgs s_f_is_good_book, defBody s_f_is_good_book, defScope s_f_is_good_book, [], []⟩
def D_f_is_step : He.DefD := ⟨("is_step", none), "is_step", "is_step", defArgs s_f_is_step, defBody s_f_is_step, defScope s_f_is_step, [], []⟩
def D_f_is_good_script : He.DefD := ⟨("is_good_script", none), "is_good_script", "is_good_script", defArgs s_f_is_good_script, defBody s_f_is_good_script, defScope s_f_is_good_script, [], []⟩
def D_f_need_book : He.DefD := ⟨("need_book", none), "need_book", "need_book", defArgs s_f_need_book, defBody s_f_need_book, defScope s_f_need_book, [], []⟩
def D_f_need_script : He.DefD := ⟨("need_script", none), "need_script", "need_script", defArgs s_f_need_script, defBody s_f_need_script, defScope s_f_need_script, [], []⟩
def D_f_weighed : He.DefD := ⟨("weighed", none), "weighed", "weighed", defArgs s_f_weighed, defBody s_f_weighed, defScope s_f_weighed, [], []⟩
def D_f_risen : He.DefD := ⟨("risen", none), "risen", "risen", defArgs s_f_risen, defBody s_f_risen, defScope s_f_risen, [], []⟩
def D_f_ring_by : He.DefD := ⟨("ring_by", none), "ring_by", "ring_by", defArgs s_f_ring_by, defBody s_f_ring_by, defScope s_f_ring_by, [], []⟩
def D_f_lone_ring : He.DefD := ⟨("lone_ring", none), "lone_ring", "lone_ring", defArgs s_f_lone_ring, defBody s_f_lone_ring, defScope s_f_lone_ring, [], []⟩
def D_f_solved : He.DefD := ⟨("solved", none), "solved", "solved", defArgs s_f_solved, defBody s_f_solved, defScope s_f_solved, [], []⟩
def D_f_can_be : He.DefD := ⟨("can_be", none), "can_be", "can_be", defArgs s_f_can_be, defBody s_f_can_be, defScope s_f_can_be, [], []⟩
def D_f_tests_of : He.DefD := ⟨("tests_of", none), "tests_of", "tests_of", defArgs s_f_tests_of, defBody s_f_tests_of, defScope s_f_tests_of, [], []⟩
def D_f_more_form : He.DefD := ⟨("more_form", none), "more_form", "more_form", defArgs s_f_more_form, defBody s_f_more_form, defScope s_f_more_form, [], []⟩
def D_f_shifted : He.DefD := ⟨("shifted", none), "shifted", "shifted", defArgs s_f_shifted, defBody s_f_shifted, defScope s_f_shifted, [], []⟩
def D_f_put : He.DefD := ⟨("put", none), "put", "put", defArgs s_f_put, defBody s_f_put, defScope s_f_put, [], []⟩
def D_f_fact_rows : He.DefD := ⟨("fact_rows", none), "fact_rows", "fact_rows", defArgs s_f_fact_rows, defBody s_f_fact_rows, defScope s_f_fact_rows, [], []⟩
def D_f_test_row : He.DefD := ⟨("test_row", none), "test_row", "test_row", defArgs s_f_test_row, defBody s_f_test_row, defScope s_f_test_row, [], []⟩
def D_f_first_forms : He.DefD := ⟨("first_forms", none), "first_forms", "first_forms", defArgs s_f_first_forms, defBody s_f_first_forms, defScope s_f_first_forms, [], []⟩
def D_f_truths_at : He.DefD := ⟨("truths_at", none), "truths_at", "truths_at", defArgs s_f_truths_at, defBody s_f_truths_at, defScope s_f_truths_at, [], []⟩
def D_f_branches : He.DefD := ⟨("branches", none), "branches", "branches", defArgs s_f_branches, defBody s_f_branches, defScope s_f_branches, [], []⟩
def D_f_run_by : He.DefD := ⟨("run_by", none), "run_by", "run_by", defArgs s_f_run_by, defBody s_f_run_by, defScope s_f_run_by, [], []⟩
def D_f_need_word : He.DefD := ⟨("need_word", none), "need_word", "need_word", defArgs s_f_need_word, defBody s_f_need_word, defScope s_f_need_word, [], []⟩
def D_f_forms : He.DefD := ⟨("forms", none), "forms", "forms", defArgs s_f_forms, defBody s_f_forms, defScope s_f_forms, [], []⟩
def D_f_rows : He.DefD := ⟨("rows", none), "rows", "rows", defArgs s_f_rows, defBody s_f_rows, defScope s_f_rows, [], []⟩
def D_f_is_round : He.DefD := ⟨("is_round", none), "is_round", "is_round", defArgs s_f_is_round, defBody s_f_is_round, defScope s_f_is_round, [], []⟩
def D_f_is_ring : He.DefD := ⟨("is_ring", none), "is_ring", "is_ring", defArgs s_f_is_ring, defBody s_f_is_ring, defScope s_f_is_ring, [], []⟩
def D_f__law_jar : He.DefD := ⟨("_law_jar", none), "_law_jar", "_law_jar", defArgs s_f__law_jar, defBody s_f__law_jar, defScope s_f__law_jar, [], []⟩
def D_f__law_dip : He.DefD := ⟨("_law_dip", none), "_law_dip", "_law_dip", defArgs s_f__law_dip, defBody s_f__law_dip, defScope s_f__law_dip, [], []⟩
def D_f__law_any : He.DefD := ⟨("_law_any", none), "_law_any", "_law_any", defArgs s_f__law_any, defBody s_f__law_any, defScope s_f__law_any, [], []⟩
def D_f__law_low : He.DefD := ⟨("_law_low", none), "_law_low", "_law_low", defArgs s_f__law_low, defBody s_f__law_low, defScope s_f__law_low, [], []⟩
def D_f__law_plus : He.DefD := ⟨("_law_plus", none), "_law_plus", "_law_plus", defArgs s_f__law_plus, defBody s_f__law_plus, defScope s_f__law_plus, [], []⟩
def D_f__law_moments : He.DefD := ⟨("_law_moments", none), "_law_moments", "_law_moments", defArgs s_f__law_moments, defBody s_f__law_moments, defScope s_f__law_moments, [], []⟩
def D_f__law_gap : He.DefD := ⟨("_law_gap", none), "_law_gap", "_law_gap", defArgs s_f__law_gap, defBody s_f__law_gap, defScope s_f__law_gap, [], []⟩
def D_f__law_book : He.DefD := ⟨("_law_book", none), "_law_book", "_law_book", defArgs s_f__law_book, defBody s_f__law_book, defScope s_f__law_book, [], []⟩
def D_f__law_step : He.DefD := ⟨("_law_step", none), "_law_step", "_law_step", defArgs s_f__law_step, defBody s_f__law_step, defScope s_f__law_step, [], []⟩
def D_f__law_steps : He.DefD := ⟨("_law_steps", none), "_law_steps", "_law_steps", defArgs s_f__law_steps, defBody s_f__law_steps, defScope s_f__law_steps, [], []⟩
def D_f__law_form : He.DefD := ⟨("_law_form", none), "_law_form", "_law_form", defArgs s_f__law_form, defBody s_f__law_form, defScope s_f__law_form, [], []⟩
def D_f__law_tests : He.DefD := ⟨("_law_tests", none), "_law_tests", "_law_tests", defArgs s_f__law_tests, defBody s_f__law_tests, defScope s_f__law_tests, [], []⟩
def D_f__law_compared : He.DefD := ⟨("_law_compared", none), "_law_compared", "_law_compared", defArgs s_f__law_compared, defBody s_f__law_compared, defScope s_f__law_compared, [], []⟩
def D_f__law_base : He.DefD := ⟨("_law_base", none), "_law_base", "_law_base", defArgs s_f__law_base, defBody s_f__law_base, defScope s_f__law_base, [], []⟩
def D_f__law_shifted : He.DefD := ⟨("_law_shifted", none), "_law_shifted", "_law_shifted", defArgs s_f__law_shifted, defBody s_f__law_shifted, defScope s_f__law_shifted, [], []⟩
def D_f__law_gone : He.DefD := ⟨("_law_gone", none), "_law_gone", "_law_gone", defArgs s_f__law_gone, defBody s_f__law_gone, defScope s_f__law_gone, [], []⟩
def D_f__law_first : He.DefD := ⟨("_law_first", none), "_law_first", "_law_first", defArgs s_f__law_first, defBody s_f__law_first, defScope s_f__law_first, [], []⟩
def D_f__law_led : He.DefD := ⟨("_law_led", none), "_law_led", "_law_led", defArgs s_f__law_led, defBody s_f__law_led, defScope s_f__law_led, [], []⟩
def D_f__law_drawn_word : He.DefD := ⟨("_law_drawn_word", none), "_law_drawn_word", "_law_drawn_word", defArgs s_f__law_drawn_word, defBody s_f__law_drawn_word, defScope s_f__law_drawn_word, [], []⟩
def D_f__law_drawn_ring : He.DefD := ⟨("_law_drawn_ring", none), "_law_drawn_ring", "_law_drawn_ring", defArgs s_f__law_drawn_ring, defBody s_f__law_drawn_ring, defScope s_f__law_drawn_ring, [], []⟩
def D_f__law_due : He.DefD := ⟨("_law_due", none), "_law_due", "_law_due", defArgs s_f__law_due, defBody s_f__law_due, defScope s_f__law_due, [], []⟩
def D_f__law_rings_right : He.DefD := ⟨("_law_rings_right", none), "_law_rings_right", "_law_rings_right", defArgs s_f__law_rings_right, defBody s_f__law_rings_right, defScope s_f__law_rings_right, [], []⟩
def D_f_law : He.DefD := ⟨("law", none), "law", "law", defArgs s_f_law, defBody s_f_law, defScope s_f_law, [], []⟩
def D__law_told : He.DefD := ⟨("_law_told", none), "_law_told", "_law_told", defArgs s__law_told, defBody s__law_told, defScope s__law_told, [], []⟩
def fn0 : List He.DefD := [D_f_is_from, D_f_lowest, D_f_is_gap, D_f_is_good_book, D_f_is_step, D_f_is_good_script, D_f_need_book, D_f_need_script, D_f_weighed, D_f_risen, D_f_ring_by, D_f_lone_ring, D_f_solved, D_f_can_be, D_f_tests_of, D_f_more_form, D_f_shifted, D_f_put, D_f_fact_rows, D_f_test_row, D_f_first_forms, D_f_truths_at, D_f_branches, D_f_run_by, D_f_need_word, D_f_forms, D_f_rows, D_f_is_round, D_f_is_ring, D_f__law_jar]
def fn1 : List He.DefD := [D_f__law_dip, D_f__law_any, D_f__law_low, D_f__law_plus, D_f__law_moments, D_f__law_gap, D_f__law_book, D_f__law_step, D_f__law_steps, D_f__law_form, D_f__law_tests, D_f__law_compared, D_f__law_base, D_f__law_shifted, D_f__law_gone, D_f__law_first, D_f__law_led, D_f__law_drawn_word, D_f__law_drawn_ring, D_f__law_due, D_f__law_rings_right, D_f_law, D__law_told]
def fnA : List He.DefD := fn0 ++ fn1
def fa0 : List He.Fa := [.glo "is_from", .glo "lowest", .glo "is_gap", .glo "is_good_book", .glo "is_step", .glo "is_good_script", .glo "need_book", .glo "need_script", .glo "weighed", .glo "risen", .glo "ring_by", .glo "lone_ring", .glo "solved", .glo "can_be", .glo "tests_of", .glo "more_form", .glo "shifted", .glo "put", .glo "fact_rows", .glo "test_row", .glo "first_forms", .glo "truths_at", .glo "branches", .glo "run_by", .glo "need_word", .glo "forms", .glo "rows", .glo "is_round", .glo "is_ring", .glo "_law_jar"]
def fa1 : List He.Fa := [.glo "_law_dip", .glo "_law_any", .glo "_law_low", .glo "_law_plus", .glo "_law_moments", .glo "_law_gap", .glo "_law_book", .glo "_law_step", .glo "_law_steps", .glo "_law_form", .glo "_law_tests", .glo "_law_compared", .glo "_law_base", .glo "_law_shifted", .glo "_law_gone", .glo "_law_first", .glo "_law_led", .glo "_law_drawn_word", .glo "_law_drawn_ring", .glo "_law_due", .glo "_law_rings_right", .glo "law", .glo "_law_told", .glo "InvalidBook", .glo "InvalidRing", .glo "InvalidScript", .glo "InvalidWord", .exc "InvalidBook", .exc "InvalidRing", .exc "InvalidScript"]
def fa2 : List He.Fa := [.exc "InvalidWord", .free "abs", .free "all", .free "any", .free "bool", .free "enumerate", .free "int", .free "isinstance", .free "len", .free "list", .free "max", .free "min", .free "range", .free "str", .free "sum", .free "tuple", .free "zip", .exm "InvalidBook" "InvalidRing" false, .exm "InvalidBook" "InvalidWord" false, .exm "InvalidRing" "InvalidRing" true, .exm "InvalidRing" "InvalidWord" false, .exm "InvalidScript" "InvalidRing" false, .exm "InvalidScript" "InvalidWord" false, .exm "InvalidWord" "InvalidRing" false, .exm "InvalidWord" "InvalidWord" true]
def faA : List He.Fa := fa0 ++ fa1 ++ fa2
def lo0 : List Str := ["CueError", "InvalidBook", "InvalidScript", "InvalidWord", "InvalidRing", "is_from", "lowest", "is_gap", "is_good_book", "is_step", "is_good_script", "need_book", "need_script", "weighed", "risen", "ring_by", "lone_ring", "solved", "can_be", "tests_of", "shifted", "put", "more_form", "fact_rows", "test_row", "first_forms", "truths_at", "branches", "run_by", "need_word"]
def lo1 : List Str := ["forms", "rows", "is_round", "is_ring", "_law_jar", "_law_dip", "_law_any", "_law_low", "_law_plus", "_law_moments", "_law_gap", "_law_book", "_law_step", "_law_steps", "_law_form", "_law_tests", "_law_compared", "_law_base", "_law_shifted", "_law_gone", "_law_first", "_law_led", "_law_drawn_word", "_law_drawn_ring", "_law_due", "_law_told", "_law_rings_right"]
def looseA : List Str := lo0 ++ lo1
abbrev R : PySem.W.OpenRow := PySem.W.OpenLaw.row PySem.Challenge.rw_cuesuntold_k04_whole_forms_rows_and_ring
abbrev hk : PySem.W.Hook := He.hookX 4 faA fnA [] (tfs.map (·.1)) (tabEx tfs)
def ob (s : PySem.W.SharedT) : He.AlX := He.obsX 4 faA fnA [] (tfs.map (·.1)) (tabEx tfs) (HandSHeadRun.getT s)
theorem ob_eq (s : PySem.W.SharedT) : ob s = hk.obs s.abs := He.obsX_eq (HandSHeadRun.getT_eq s)
theorem run (w : World) : HandSHeadRun.RunEq R (PySem.W.view R.prog [64]) hk ob 4000 looseA w := by
  intro os
  kernel_rfl
theorem tx_of {K : PySem.W.Frag} {h base : Heap} {mg : Str → Option Value} (X : K.In h) (G : h.Ns mainGlobals mg) (c : He.SaysD faA fnA K) (hn : tabEx tfs K = true) (B : ∀ c ∈ tfs.map (fun p => He.cT K p.1), LamX.TabB base mg c.1 c.2) : Tx K mg base where
  d_is_from := have ⟨fd, F⟩ := c.def_ 0 (d := D_f_is_from) rfl; ⟨_, fd, F, He.glo_ok X G (c.fact 0 (f := .glo "is_from") rfl)⟩
  g_is_from := He.glo_ok X G (c.fact 0 (f := .glo "is_from") rfl)
  d_lowest := have ⟨fd, F⟩ := c.def_ 1 (d := D_f_lowest) rfl; ⟨_, fd, F, He.glo_ok X G (c.fact 1 (f := .glo "lowest") rfl)⟩
  g_lowest := He.glo_ok X G (c.fact 1 (f := .glo "lowest") rfl)
  d_is_gap := have ⟨fd, F⟩ := c.def_ 2 (d := D_f_is_gap) rfl; ⟨_, fd, F, He.glo_ok X G (c.fact 2 (f := .glo "is_gap") rfl)⟩
  g_is_gap := He.glo_ok X G (c.fact 2 (f := .glo "is_gap") rfl)
  d_is_good_book := have ⟨fd, F⟩ := c.def_ 3 (d := D_f_is_good_book) rfl; ⟨_, fd, F, He.glo_ok X G (c.fact 3 (f := .glo "is_good_book") rfl)⟩
  g_is_good_book := He.glo_ok X G (c.fact 3 (f := .glo "is_good_book") rfl)
  d_is_step := have ⟨fd, F⟩ := c.def_ 4 (d := D_f_is_step) rfl; ⟨_, fd, F, He.glo_ok X G (c.fact 4 (f := .glo "is_step") rfl)⟩
  g_is_step := He.glo_ok X G (c.fact 4 (f := .glo "is_step") rfl)
  d_is_good_script := have ⟨fd, F⟩ := c.def_ 5 (d := D_f_is_good_script) rfl; ⟨_, fd, F, He.glo_ok X G (c.fact 5 (f := .glo "is_good_script") rfl)⟩
  g_is_good_script := He.glo_ok X G (c.fact 5 (f := .glo "is_good_script") rfl)
  d_need_book := have ⟨fd, F⟩ := c.def_ 6 (d := D_f_need_book) rfl; ⟨_, fd, F, He.glo_ok X G (c.fact 6 (f := .glo "need_book") rfl)⟩
  g_need_book := He.glo_ok X G (c.fact 6 (f := .glo "need_book") rfl)
  d_need_script := have ⟨fd, F⟩ := c.def_ 7 (d := D_f_need_script) rfl; ⟨_, fd, F, He.glo_ok X G (c.fact 7 (f := .glo "need_script") rfl)⟩
  g_need_script := He.glo_ok X G (c.fact 7 (f := .glo "need_script") rfl)
  d_weighed := have ⟨fd, F⟩ := c.def_ 8 (d := D_f_weighed) rfl; ⟨_, fd, F, He.glo_ok X G (c.fact 8 (f := .glo "weighed") rfl)⟩
  g_weighed := He.glo_ok X G (c.fact 8 (f := .glo "weighed") rfl)
  d_risen := have ⟨fd, F⟩ := c.def_ 9 (d := D_f_risen) rfl; ⟨_, fd, F, He.glo_ok X G (c.fact 9 (f := .glo "risen") rfl)⟩
  g_risen := He.glo_ok X G (c.fact 9 (f := .glo "risen") rfl)
  d_ring_by := have ⟨fd, F⟩ := c.def_ 10 (d := D_f_ring_by) rfl; ⟨_, fd, F, He.glo_ok X G (c.fact 10 (f := .glo "ring_by") rfl)⟩
  g_ring_by := He.glo_ok X G (c.fact 10 (f := .glo "ring_by") rfl)
  d_lone_ring := have ⟨fd, F⟩ := c.def_ 11 (d := D_f_lone_ring) rfl; ⟨_, fd, F, He.glo_ok X G (c.fact 11 (f := .glo "lone_ring") rfl)⟩
  g_lone_ring := He.glo_ok X G (c.fact 11 (f := .glo "lone_ring") rfl)
  d_solved := have ⟨fd, F⟩ := c.def_ 12 (d := D_f_solved) rfl; ⟨_, fd, F, He.glo_ok X G (c.fact 12 (f := .glo "solved") rfl)⟩
  g_solved := He.glo_ok X G (c.fact 12 (f := .glo "solved") rfl)
  d_can_be := have ⟨fd, F⟩ := c.def_ 13 (d := D_f_can_be) rfl; ⟨_, fd, F, He.glo_ok X G (c.fact 13 (f := .glo "can_be") rfl)⟩
  g_can_be := He.glo_ok X G (c.fact 13 (f := .glo "can_be") rfl)
  d_tests_of := have ⟨fd, F⟩ := c.def_ 14 (d := D_f_tests_of) rfl; ⟨_, fd, F, He.glo_ok X G (c.fact 14 (f := .glo "tests_of") rfl)⟩
  g_tests_of := He.glo_ok X G (c.fact 14 (f := .glo "tests_of") rfl)
  d_more_form := have ⟨fd, F⟩ := c.def_ 15 (d := D_f_more_form) rfl; ⟨_, fd, F, He.glo_ok X G (c.fact 15 (f := .glo "more_form") rfl)⟩
  g_more_form := He.glo_ok X G (c.fact 15 (f := .glo "more_form") rfl)
  d_shifted := have ⟨fd, F⟩ := c.def_ 16 (d := D_f_shifted) rfl; ⟨_, fd, F, He.glo_ok X G (c.fact 16 (f := .glo "shifted") rfl)⟩
  g_shifted := He.glo_ok X G (c.fact 16 (f := .glo "shifted") rfl)
  d_put := have ⟨fd, F⟩ := c.def_ 17 (d := D_f_put) rfl; ⟨_, fd, F, He.glo_ok X G (c.fact 17 (f := .glo "put") rfl)⟩
  g_put := He.glo_ok X G (c.fact 17 (f := .glo "put") rfl)
  d_fact_rows := have ⟨fd, F⟩ := c.def_ 18 (d := D_f_fact_rows) rfl; ⟨_, fd, F, He.glo_ok X G (c.fact 18 (f := .glo "fact_rows") rfl)⟩
  g_fact_rows := He.glo_ok X G (c.fact 18 (f := .glo "fact_rows") rfl)
  d_test_row := have ⟨fd, F⟩ := c.def_ 19 (d := D_f_test_row) rfl; ⟨_, fd, F, He.glo_ok X G (c.fact 19 (f := .glo "test_row") rfl)⟩
  g_test_row := He.glo_ok X G (c.fact 19 (f := .glo "test_row") rfl)
  d_first_forms := have ⟨fd, F⟩ := c.def_ 20 (d := D_f_first_forms) rfl; ⟨_, fd, F, He.glo_ok X G (c.fact 20 (f := .glo "first_forms") rfl)⟩
  g_first_forms := He.glo_ok X G (c.fact 20 (f := .glo "first_forms") rfl)
  d_truths_at := have ⟨fd, F⟩ := c.def_ 21 (d := D_f_truths_at) rfl; ⟨_, fd, F, He.glo_ok X G (c.fact 21 (f := .glo "truths_at") rfl)⟩
  g_truths_at := He.glo_ok X G (c.fact 21 (f := .glo "truths_at") rfl)
  d_branches := have ⟨fd, F⟩ := c.def_ 22 (d := D_f_branches) rfl; ⟨_, fd, F, He.glo_ok X G (c.fact 22 (f := .glo "branches") rfl)⟩
  g_branches := He.glo_ok X G (c.fact 22 (f := .glo "branches") rfl)
  d_run_by := have ⟨fd, F⟩ := c.def_ 23 (d := D_f_run_by) rfl; ⟨_, fd, F, He.glo_ok X G (c.fact 23 (f := .glo "run_by") rfl)⟩
  g_run_by := He.glo_ok X G (c.fact 23 (f := .glo "run_by") rfl)
  d_need_word := have ⟨fd, F⟩ := c.def_ 24 (d := D_f_need_word) rfl; ⟨_, fd, F, He.glo_ok X G (c.fact 24 (f := .glo "need_word") rfl)⟩
  g_need_word := He.glo_ok X G (c.fact 24 (f := .glo "need_word") rfl)
  d_forms := have ⟨fd, F⟩ := c.def_ 25 (d := D_f_forms) rfl; ⟨_, fd, F, He.glo_ok X G (c.fact 25 (f := .glo "forms") rfl)⟩
  g_forms := He.glo_ok X G (c.fact 25 (f := .glo "forms") rfl)
  d_rows := have ⟨fd, F⟩ := c.def_ 26 (d := D_f_rows) rfl; ⟨_, fd, F, He.glo_ok X G (c.fact 26 (f := .glo "rows") rfl)⟩
  g_rows := He.glo_ok X G (c.fact 26 (f := .glo "rows") rfl)
  d_is_round := have ⟨fd, F⟩ := c.def_ 27 (d := D_f_is_round) rfl; ⟨_, fd, F, He.glo_ok X G (c.fact 27 (f := .glo "is_round") rfl)⟩
  g_is_round := He.glo_ok X G (c.fact 27 (f := .glo "is_round") rfl)
  d_is_ring := have ⟨fd, F⟩ := c.def_ 28 (d := D_f_is_ring) rfl; ⟨_, fd, F, He.glo_ok X G (c.fact 28 (f := .glo "is_ring") rfl)⟩
  g_is_ring := He.glo_ok X G (c.fact 28 (f := .glo "is_ring") rfl)
  d__law_jar := have ⟨fd, F⟩ := c.def_ 29 (d := D_f__law_jar) rfl; ⟨_, fd, F, He.glo_ok X G (c.fact 29 (f := .glo "_law_jar") rfl)⟩
  g__law_jar := He.glo_ok X G (c.fact 29 (f := .glo "_law_jar") rfl)
  d__law_dip := have ⟨fd, F⟩ := c.def_ 30 (d := D_f__law_dip) rfl; ⟨_, fd, F, He.glo_ok X G (c.fact 30 (f := .glo "_law_dip") rfl)⟩
  g__law_dip := He.glo_ok X G (c.fact 30 (f := .glo "_law_dip") rfl)
  d__law_any := have ⟨fd, F⟩ := c.def_ 31 (d := D_f__law_any) rfl; ⟨_, fd, F, He.glo_ok X G (c.fact 31 (f := .glo "_law_any") rfl)⟩
  g__law_any := He.glo_ok X G (c.fact 31 (f := .glo "_law_any") rfl)
  d__law_low := have ⟨fd, F⟩ := c.def_ 32 (d := D_f__law_low) rfl; ⟨_, fd, F, He.glo_ok X G (c.fact 32 (f := .glo "_law_low") rfl)⟩
  g__law_low := He.glo_ok X G (c.fact 32 (f := .glo "_law_low") rfl)
  d__law_plus := have ⟨fd, F⟩ := c.def_ 33 (d := D_f__law_plus) rfl; ⟨_, fd, F, He.glo_ok X G (c.fact 33 (f := .glo "_law_plus") rfl)⟩
  g__law_plus := He.glo_ok X G (c.fact 33 (f := .glo "_law_plus") rfl)
  d__law_moments := have ⟨fd, F⟩ := c.def_ 34 (d := D_f__law_moments) rfl; ⟨_, fd, F, He.glo_ok X G (c.fact 34 (f := .glo "_law_moments") rfl)⟩
  g__law_moments := He.glo_ok X G (c.fact 34 (f := .glo "_law_moments") rfl)
  d__law_gap := have ⟨fd, F⟩ := c.def_ 35 (d := D_f__law_gap) rfl; ⟨_, fd, F, He.glo_ok X G (c.fact 35 (f := .glo "_law_gap") rfl)⟩
  g__law_gap := He.glo_ok X G (c.fact 35 (f := .glo "_law_gap") rfl)
  d__law_book := have ⟨fd, F⟩ := c.def_ 36 (d := D_f__law_book) rfl; ⟨_, fd, F, He.glo_ok X G (c.fact 36 (f := .glo "_law_book") rfl)⟩
  g__law_book := He.glo_ok X G (c.fact 36 (f := .glo "_law_book") rfl)
  d__law_step := have ⟨fd, F⟩ := c.def_ 37 (d := D_f__law_step) rfl; ⟨_, fd, F, He.glo_ok X G (c.fact 37 (f := .glo "_law_step") rfl)⟩
  g__law_step := He.glo_ok X G (c.fact 37 (f := .glo "_law_step") rfl)
  d__law_steps := have ⟨fd, F⟩ := c.def_ 38 (d := D_f__law_steps) rfl; ⟨_, fd, F, He.glo_ok X G (c.fact 38 (f := .glo "_law_steps") rfl)⟩
  g__law_steps := He.glo_ok X G (c.fact 38 (f := .glo "_law_steps") rfl)
  d__law_form := have ⟨fd, F⟩ := c.def_ 39 (d := D_f__law_form) rfl; ⟨_, fd, F, He.glo_ok X G (c.fact 39 (f := .glo "_law_form") rfl)⟩
  g__law_form := He.glo_ok X G (c.fact 39 (f := .glo "_law_form") rfl)
  d__law_tests := have ⟨fd, F⟩ := c.def_ 40 (d := D_f__law_tests) rfl; ⟨_, fd, F, He.glo_ok X G (c.fact 40 (f := .glo "_law_tests") rfl)⟩
  g__law_tests := He.glo_ok X G (c.fact 40 (f := .glo "_law_tests") rfl)
  d__law_compared := have ⟨fd, F⟩ := c.def_ 41 (d := D_f__law_compared) rfl; ⟨_, fd, F, He.glo_ok X G (c.fact 41 (f := .glo "_law_compared") rfl)⟩
  g__law_compared := He.glo_ok X G (c.fact 41 (f := .glo "_law_compared") rfl)
  d__law_base := have ⟨fd, F⟩ := c.def_ 42 (d := D_f__law_base) rfl; ⟨_, fd, F, He.glo_ok X G (c.fact 42 (f := .glo "_law_base") rfl)⟩
  g__law_base := He.glo_ok X G (c.fact 42 (f := .glo "_law_base") rfl)
  d__law_shifted := have ⟨fd, F⟩ := c.def_ 43 (d := D_f__law_shifted) rfl; ⟨_, fd, F, He.glo_ok X G (c.fact 43 (f := .glo "_law_shifted") rfl)⟩
  g__law_shifted := He.glo_ok X G (c.fact 43 (f := .glo "_law_shifted") rfl)
  d__law_gone := have ⟨fd, F⟩ := c.def_ 44 (d := D_f__law_gone) rfl; ⟨_, fd, F, He.glo_ok X G (c.fact 44 (f := .glo "_law_gone") rfl)⟩
  g__law_gone := He.glo_ok X G (c.fact 44 (f := .glo "_law_gone") rfl)
  d__law_first := have ⟨fd, F⟩ := c.def_ 45 (d := D_f__law_first) rfl; ⟨_, fd, F, He.glo_ok X G (c.fact 45 (f := .glo "_law_first") rfl)⟩
  g__law_first := He.glo_ok X G (c.fact 45 (f := .glo "_law_first") rfl)
  d__law_led := have ⟨fd, F⟩ := c.def_ 46 (d := D_f__law_led) rfl; ⟨_, fd, F, He.glo_ok X G (c.fact 46 (f := .glo "_law_led") rfl)⟩
  g__law_led := He.glo_ok X G (c.fact 46 (f := .glo "_law_led") rfl)
  d__law_drawn_word := have ⟨fd, F⟩ := c.def_ 47 (d := D_f__law_drawn_word) rfl; ⟨_, fd, F, He.glo_ok X G (c.fact 47 (f := .glo "_law_drawn_word") rfl)⟩
  g__law_drawn_word := He.glo_ok X G (c.fact 47 (f := .glo "_law_drawn_word") rfl)
  d__law_drawn_ring := have ⟨fd, F⟩ := c.def_ 48 (d := D_f__law_drawn_ring) rfl; ⟨_, fd, F, He.glo_ok X G (c.fact 48 (f := .glo "_law_drawn_ring") rfl)⟩
  g__law_drawn_ring := He.glo_ok X G (c.fact 48 (f := .glo "_law_drawn_ring") rfl)
  d__law_due := have ⟨fd, F⟩ := c.def_ 49 (d := D_f__law_due) rfl; ⟨_, fd, F, He.glo_ok X G (c.fact 49 (f := .glo "_law_due") rfl)⟩
  g__law_due := He.glo_ok X G (c.fact 49 (f := .glo "_law_due") rfl)
  d__law_rings_right := have ⟨fd, F⟩ := c.def_ 50 (d := D_f__law_rings_right) rfl; ⟨_, fd, F, He.glo_ok X G (c.fact 50 (f := .glo "_law_rings_right") rfl)⟩
  g__law_rings_right := He.glo_ok X G (c.fact 50 (f := .glo "_law_rings_right") rfl)
  d_law := have ⟨fd, F⟩ := c.def_ 51 (d := D_f_law) rfl; ⟨_, fd, F, He.glo_ok X G (c.fact 51 (f := .glo "law") rfl)⟩
  g_law := He.glo_ok X G (c.fact 51 (f := .glo "law") rfl)
  g_InvalidBook := He.glo_ok X G (c.fact 53 (f := .glo "InvalidBook") rfl)
  e_InvalidBook := He.exc_ok (c.fact 57 (f := .exc "InvalidBook") rfl)
  g_InvalidRing := He.glo_ok X G (c.fact 54 (f := .glo "InvalidRing") rfl)
  e_InvalidRing := He.exc_ok (c.fact 58 (f := .exc "InvalidRing") rfl)
  g_InvalidScript := He.glo_ok X G (c.fact 55 (f := .glo "InvalidScript") rfl)
  e_InvalidScript := He.exc_ok (c.fact 59 (f := .exc "InvalidScript") rfl)
  g_InvalidWord := He.glo_ok X G (c.fact 56 (f := .glo "InvalidWord") rfl)
  e_InvalidWord := He.exc_ok (c.fact 60 (f := .exc "InvalidWord") rfl)
  d__law_told := have ⟨fd, F⟩ := c.def_ 52 (d := D__law_told) rfl; ⟨_, fd, F, He.glo_ok X G (c.fact 52 (f := .glo "_law_told") rfl)⟩
  c__law_told := ⟨rfl, fun y hy p hp C hC => by
      rcases List.mem_cons.mp hy with e0 | hy
      · subst e0; have e := hC.symm.trans (He.glo_ok X G (c.fact 53 (f := .glo "InvalidBook") rfl)); cases e
        rcases List.mem_cons.mp hp with e1 | hp
        · subst e1; exact (He.exm_ok (c.fact 77 (f := .exm "InvalidBook" "InvalidRing" false) rfl)).trans (congrArg some (by decide +kernel : false = decide (("InvalidBook" : Str) = "InvalidRing")))
        · rcases List.mem_cons.mp hp with e1 | hp
          · subst e1; exact (He.exm_ok (c.fact 78 (f := .exm "InvalidBook" "InvalidWord" false) rfl)).trans (congrArg some (by decide +kernel : false = decide (("InvalidBook" : Str) = "InvalidWord")))
          · exact absurd hp (by simp)
      · rcases List.mem_cons.mp hy with e0 | hy
        · subst e0; have e := hC.symm.trans (He.glo_ok X G (c.fact 54 (f := .glo "InvalidRing") rfl)); cases e
          rcases List.mem_cons.mp hp with e1 | hp
          · subst e1; exact (He.exm_ok (c.fact 79 (f := .exm "InvalidRing" "InvalidRing" true) rfl)).trans (congrArg some (by decide +kernel : true = decide (("InvalidRing" : Str) = "InvalidRing")))
          · rcases List.mem_cons.mp hp with e1 | hp
            · subst e1; exact (He.exm_ok (c.fact 80 (f := .exm "InvalidRing" "InvalidWord" false) rfl)).trans (congrArg some (by decide +kernel : false = decide (("InvalidRing" : Str) = "InvalidWord")))
            · exact absurd hp (by simp)
        · rcases List.mem_cons.mp hy with e0 | hy
          · subst e0; have e := hC.symm.trans (He.glo_ok X G (c.fact 55 (f := .glo "InvalidScript") rfl)); cases e
            rcases List.mem_cons.mp hp with e1 | hp
            · subst e1; exact (He.exm_ok (c.fact 81 (f := .exm "InvalidScript" "InvalidRing" false) rfl)).trans (congrArg some (by decide +kernel : false = decide (("InvalidScript" : Str) = "InvalidRing")))
            · rcases List.mem_cons.mp hp with e1 | hp
              · subst e1; exact (He.exm_ok (c.fact 82 (f := .exm "InvalidScript" "InvalidWord" false) rfl)).trans (congrArg some (by decide +kernel : false = decide (("InvalidScript" : Str) = "InvalidWord")))
              · exact absurd hp (by simp)
          · rcases List.mem_cons.mp hy with e0 | hy
            · subst e0; have e := hC.symm.trans (He.glo_ok X G (c.fact 56 (f := .glo "InvalidWord") rfl)); cases e
              rcases List.mem_cons.mp hp with e1 | hp
              · subst e1; exact (He.exm_ok (c.fact 83 (f := .exm "InvalidWord" "InvalidRing" false) rfl)).trans (congrArg some (by decide +kernel : false = decide (("InvalidWord" : Str) = "InvalidRing")))
              · rcases List.mem_cons.mp hp with e1 | hp
                · subst e1; exact (He.exm_ok (c.fact 84 (f := .exm "InvalidWord" "InvalidWord" true) rfl)).trans (congrArg some (by decide +kernel : true = decide (("InvalidWord" : Str) = "InvalidWord")))
                · exact absurd hp (by simp)
            · exact absurd hy (by simp)⟩
  l__law_rings_right := have ⟨fd, F⟩ := c.def_ 50 (d := D_f__law_rings_right) rfl; ⟨_, fd, _, _, F, He.glo_ok X G (c.fact 50 (f := .glo "_law_rings_right") rfl), lamAt_of rfl hn F (by simp [tfs, D_f__law_rings_right]) B⟩
  b_abs := He.free_ok X G (c.fact 61 (f := .free "abs") rfl)
  b_all := He.free_ok X G (c.fact 62 (f := .free "all") rfl)
  b_any := He.free_ok X G (c.fact 63 (f := .free "any") rfl)
  b_bool := He.free_ok X G (c.fact 64 (f := .free "bool") rfl)
  b_enumerate := He.free_ok X G (c.fact 65 (f := .free "enumerate") rfl)
  b_int := He.free_ok X G (c.fact 66 (f := .free "int") rfl)
  b_isinstance := He.free_ok X G (c.fact 67 (f := .free "isinstance") rfl)
  b_len := He.free_ok X G (c.fact 68 (f := .free "len") rfl)
  b_list := He.free_ok X G (c.fact 69 (f := .free "list") rfl)
  b_max := He.free_ok X G (c.fact 70 (f := .free "max") rfl)
  b_min := He.free_ok X G (c.fact 71 (f := .free "min") rfl)
  b_range := He.free_ok X G (c.fact 72 (f := .free "range") rfl)
  b_str := He.free_ok X G (c.fact 73 (f := .free "str") rfl)
  b_sum := He.free_ok X G (c.fact 74 (f := .free "sum") rfl)
  b_tuple := He.free_ok X G (c.fact 75 (f := .free "tuple") rfl)
  b_zip := He.free_ok X G (c.fact 76 (f := .free "zip") rfl)
theorem facts {l : PySem.W.OpenLaw} {w : World} {K : PySem.W.Frag} {h : Heap} {mg : Str → Option Value} {f : Addr} (X : K.In h) (G : h.Ns mainGlobals mg) (hfa : mg ("law" : Str) = some (.ref f)) (cx : He.SaysX faA fnA [] (tfs.map (·.1)) (tabEx tfs) w h K) :
    LamX.LawAtS l w K (L2.CX l.prog w) 10 63 "script" mg f h := by
  have c := cx.t.d
  obtain ⟨fd, F⟩ := c.def_ 51 (d := D_f_law) rfl
  have e := hfa.symm.trans (He.glo_ok X G (c.fact 51 (f := .glo "law") rfl))
  cases e
  have b := FunD.bindsA (ps := ["script"]) F fun _ _ _ _ _ _ us hl => match us, hl with | [_], _ => rfl
  exact lawAt rfl X cx (fun s v => b s [v] rfl) pure_law fun base _ _ B => fn_f_law (tx_of X G c cx.more B) F (lamAt_of rfl cx.more F (by simp [tfs, D_f_law]) B)
end G
open PySem PySem.W PySem.Calls PyProof.Rows
theorem PySem.Challenge.cw_cuesuntold_k04_whole_forms_rows_and_ring_holds : PySem.Challenge.rw_cuesuntold_k04_whole_forms_rows_and_ring.Holds := by
  w_on; o_law
  refine HandSHeadRun.head_any (r := OpenLaw.row PySem.Challenge.rw_cuesuntold_k04_whole_forms_rows_and_ring) (q := view (OpenLaw.row PySem.Challenge.rw_cuesuntold_k04_whole_forms_rows_and_ring).prog [64]) (H := G.hk) (ob := G.ob) (M := 4000) (loose := G.looseA) (d := HandSHeadRun.topDef (OpenLaw.row PySem.Challenge.rw_cuesuntold_k04_whole_forms_rows_and_ring).prog 64) (kwd := []) G.ob_eq
    (by kernel_rfl) (fun s => by kernel_rfl) G.run (by kernel_rfl) (by kernel_rfl) (by kernel_rfl) (by rfl) (by first | assumption | decide +kernel) (by decide +kernel) ⟨rfl, rfl, rfl, rfl, rfl, by decide +kernel⟩ ?hw ?hc
  case hw => w_witness2
  case hc =>
    refine LamX.walk_ofTsE (l := PySem.Challenge.rw_cuesuntold_k04_whole_forms_rows_and_ring) (n := 63) (k := 10) (x := "script") (CX := fun w => L2.CX (PySem.Challenge.rw_cuesuntold_k04_whole_forms_rows_and_ring).prog w) rfl (by decide) (by kernel_rfl) ⟨rfl, by decide, by decide⟩ ?F (fun w H s e s' h => G.cx_no w H s e s' h)
    intro w mg fa h Y G0 hmg0
    obtain ⟨K, KX, c⟩ := Y
    have hmg : mg ("law" : PySem.Str) = some (.ref fa) := by
      have e : (HandSHeadRun.topDef (OpenLaw.row PySem.Challenge.rw_cuesuntold_k04_whole_forms_rows_and_ring).prog 64).name = ("law" : PySem.Str) := by kernel_rfl
      rw [← e]
      exact hmg0
    exact ⟨K, KX, G.facts KX G0 hmg c⟩

end
