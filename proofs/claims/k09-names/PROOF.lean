import PyProof.Rows.All
import Wide.All
import OpenK.AllK
import Wide.FinOn
import HandS.ForMost
import HandS.ForExc
import PyProof.EqAt
import PyProof.EqKinds
import PyProof.NeKinds
import HandS.IsInst
import HandS.CallSlots
import HandS.Defaults
import HandS.Head0
import HandS.Head1
import HandS.Head2
import HandS.HeadEnd
import HandS.HeadHook1
import HandS.HeadHook2
import HandS.Property
import HandS.MakeKwOnly
import HandS.ClsMeth
import HandS.WordsExc
import HandS.TryOnly
import HandS.TupAny
import PySem.Challenge.RW_leverhouse_k09_names
set_option Elab.async false
set_option linter.all false
set_option maxRecDepth 100000
set_option maxHeartbeats 4000000
namespace Gm
open PySem L2

/-! ## mirror values -/
inductive Pay where
  | n | i (z : Int) | s (z : Str)
structure Exn where
  c : Str
  f : Str
  p : Pay
inductive Mx (α : Type) where
  | ok (a : α) | ex (e : Exn) | no
def Mx.bind {α β : Type} : Mx α → (α → Mx β) → Mx β
  | .ok a, f => f a
  | .ex e, _ => .ex e
  | .no, _ => .no
instance : Monad Mx where
  pure := Mx.ok
  bind := Mx.bind
theorem ok_bind {α β : Type} (a : α) (f : α → Mx β) : (Mx.ok a >>= f) = f a := rfl

/-! ## codes of data -/
inductive Ty where
  | int | bool | str | non | scr
  | opt (t : Ty) | tup (fs : Ty) | vtup (t : Ty) | hl (fs : Ty) | list (t : Ty)
  | pr (a b : Ty) | nl | sum (a b : Ty) | ins (c : Str) (ns : List Str) (fs : Ty)
@[reducible] def Ty.den : Ty → Type
  | .int => Int
  | .bool => Bool
  | .str => Str
  | .non => Unit
  | .scr => List Int
  | .opt t => Option t.den
  | .tup fs => fs.den
  | .vtup t => List t.den
  | .hl fs => fs.den
  | .list t => List t.den
  | .pr a b => a.den × b.den
  | .nl => Unit
  | .sum a b => Sum a.den b.den
  | .ins _ _ fs => fs.den
def Ty.flat : Ty → Bool
  | .int => true
  | .bool => true
  | .str => true
  | .non => true
  | .scr => false
  | .opt t => t.flat
  | .tup fs => fs.flat
  | .vtup t => t.flat
  | .hl _ => false
  | .list _ => false
  | .pr a b => a.flat && b.flat
  | .nl => true
  | .sum a b => a.flat && b.flat
  | .ins _ _ _ => false

def all2 {α : Type} (R : α → V → Prop) : List α → List V → Prop
  | [], [] => True
  | x :: xs, v :: vs => R x v ∧ all2 R xs vs
  | _, _ => False
theorem all2.imp {α : Type} {R S : α → V → Prop} (h : ∀ x v, R x v → S x v) : ∀ {xs : List α} {vs : List V}, all2 R xs vs → all2 S xs vs
  | [], [], _ => True.intro
  | _ :: _, _ :: _, ⟨a, b⟩ => ⟨h _ _ a, all2.imp h b⟩
  | [], _ :: _, z => z.elim
  | _ :: _, [], z => z.elim
theorem all2.len {α : Type} {R : α → V → Prop} : ∀ {xs : List α} {vs : List V}, all2 R xs vs → xs.length = vs.length
  | [], [], _ => rfl
  | _ :: _, _ :: _, ⟨_, b⟩ => congrArg (· + 1) (all2.len b)
  | [], _ :: _, z => z.elim
  | _ :: _, [], z => z.elim
theorem all2.get {α : Type} {R : α → V → Prop} : ∀ {xs : List α} {vs : List V} {i : Nat} {x : α}, all2 R xs vs → xs[i]? = some x → ∃ v, vs[i]? = some v ∧ R x v
  | [], [], _, _, _, e => by simp at e
  | a :: _, v :: _, 0, x, ⟨h, _⟩, e => by
    simp at e; subst e; exact ⟨v, rfl, h⟩
  | _ :: xs, _ :: vs, i + 1, x, ⟨_, h⟩, e => by
    obtain ⟨v, h1, h2⟩ := all2.get (i := i) h (by simpa using e)
    exact ⟨v, by simpa using h1, h2⟩
  | [], _ :: _, _, _, z, _ => z.elim
  | _ :: _, [], _, _, z, _ => z.elim
theorem all2.getV {α : Type} {R : α → V → Prop} : ∀ {xs : List α} {vs : List V} {i : Nat} {v : V}, all2 R xs vs → vs[i]? = some v → ∃ x, xs[i]? = some x ∧ R x v
  | [], [], _, _, _, e => by simp at e
  | a :: _, v :: _, 0, x, ⟨h, _⟩, e => by
    simp at e; subst e; exact ⟨a, rfl, h⟩
  | _ :: xs, _ :: vs, i + 1, x, ⟨_, h⟩, e => by
    obtain ⟨v, h1, h2⟩ := all2.getV (i := i) h (by simpa using e)
    exact ⟨v, by simpa using h1, h2⟩
  | [], _ :: _, _, _, z, _ => z.elim
  | _ :: _, [], _, _, z, _ => z.elim
theorem all2.app {α : Type} {R : α → V → Prop} : ∀ {xs ys : List α} {vs ws : List V}, all2 R xs vs → all2 R ys ws → all2 R (xs ++ ys) (vs ++ ws)
  | [], _, [], _, _, h => h
  | _ :: _, _, _ :: _, _, ⟨a, b⟩, h => ⟨a, all2.app b h⟩
  | [], _, _ :: _, _, z, _ => z.elim
  | _ :: _, _, [], _, z, _ => z.elim
theorem all2.take {α : Type} {R : α → V → Prop} : ∀ {xs : List α} {vs : List V} (n : Nat), all2 R xs vs → all2 R (xs.take n) (vs.take n)
  | [], [], n, _ => by simp [all2]
  | _ :: _, _ :: _, 0, _ => by simp [all2]
  | _ :: _, _ :: _, n + 1, ⟨a, b⟩ => ⟨a, all2.take n b⟩
  | [], _ :: _, _, z => z.elim
  | _ :: _, [], _, z => z.elim
theorem all2.drop {α : Type} {R : α → V → Prop} : ∀ {xs : List α} {vs : List V} (n : Nat), all2 R xs vs → all2 R (xs.drop n) (vs.drop n)
  | [], [], n, _ => by simp [all2]
  | _ :: _, _ :: _, 0, h => h
  | _ :: _, _ :: _, n + 1, ⟨_, b⟩ => by simpa using all2.drop n b
  | [], _ :: _, _, z => z.elim
  | _ :: _, [], _, z => z.elim
theorem all2.set {α : Type} {R : α → V → Prop} {x : α} {v : V} (hx : R x v) : ∀ {xs : List α} {vs : List V} (n : Nat), all2 R xs vs → all2 R (xs.set n x) (vs.set n v)
  | [], [], n, _ => by simp [all2]
  | _ :: _, _ :: _, 0, ⟨_, b⟩ => ⟨hx, b⟩
  | _ :: _, _ :: _, n + 1, ⟨a, b⟩ => ⟨a, all2.set hx n b⟩
  | [], _ :: _, _, z => z.elim
  | _ :: _, [], _, z => z.elim
theorem all2.rev {α : Type} {R : α → V → Prop} : ∀ {xs : List α} {vs : List V}, all2 R xs vs → all2 R xs.reverse vs.reverse
  | [], [], _ => by simp [all2]
  | x :: xs, v :: vs, ⟨a, b⟩ => by
    rw [List.reverse_cons, List.reverse_cons]
    exact all2.app (all2.rev b) ⟨a, True.intro⟩
  | [], _ :: _, z => z.elim
  | _ :: _, [], z => z.elim

section
variable (K : PySem.W.Frag) (mg : Str → Option Value)
/-- the values vs stand for x, over the frozen heap F -/
def rl : (t : Ty) → t.den → List V → Hp → Prop
  | .int, i, vs, _ => vs = [.int i]
  | .bool, b, vs, _ => vs = [.bl b]
  | .str, s, vs, _ => vs = [.str s]
  | .non, _, vs, _ => vs = [.non]
  | .scr, xs, vs, F => ∃ a, vs = [.ref a] ∧ SqL K F a (xs.map V.int)
  | .opt t, x, vs, F => match x with
    | none => vs = [.non]
    | some y => vs ≠ [.non] ∧ rl t y vs F
  | .tup fs, x, vs, F => ∃ a ws, vs = [.ref a] ∧ SqT K F a ws ∧ rl fs x ws F
  | .vtup t, xs, vs, F => ∃ a ws, vs = [.ref a] ∧ SqT K F a ws ∧ all2 (fun x w => rl t x [w] F) xs ws
  | .hl fs, x, vs, F => ∃ a ws, vs = [.ref a] ∧ F a = some (.lst ws) ∧ rl fs x ws F
  | .list t, xs, vs, F => ∃ a ws, vs = [.ref a] ∧ F a = some (.lst ws) ∧ all2 (fun x w => rl t x [w] F) xs ws
  | .pr a b, x, vs, F => ∃ v r, vs = v :: r ∧ rl a x.1 [v] F ∧ rl b x.2 r F
  | .nl, _, vs, _ => vs = []
  | .sum a b, x, vs, F => match x with
    | .inl y => rl a y vs F
    | .inr y => rl b y vs F
  | .ins c ns fs, x, vs, F => ∃ a C dx ws, vs = [.ref a] ∧ mg c = some (.ref C) ∧ F a = some (.ins C dx (ns.zip ws)) ∧ ns.length = ws.length ∧ rl fs x ws F
end

theorem sqT_mono {K : PySem.W.Frag} {F F' : Hp} {a : Addr} {ws : List V} (h : ∀ b o, F b = some o → ((∃ xs, o = .tup xs) ∨ (∃ u v, o = .frz u v)) → F' b = some o) (q : SqT K F a ws) : SqT K F' a ws := by
  rcases q with (q | ⟨o, q⟩) | q
  · exact .inl (.inl (h _ _ q (.inl ⟨_, rfl⟩)))
  · exact .inl (.inr ⟨o, h _ _ q (.inr ⟨_, _, rfl⟩)⟩)
  · exact .inr q
section
variable {K : PySem.W.Frag} {mg : Str → Option Value}
theorem rl_mono {F F' : Hp} (h : Same F F') : ∀ (t : Ty) (x : t.den) (vs : List V), rl K mg t x vs F → rl K mg t x vs F' := by
  intro t
  induction t with
  | int => intro x vs q; exact q
  | bool => intro x vs q; exact q
  | str => intro x vs q; exact q
  | non => intro x vs q; exact q
  | scr => intro x vs q; obtain ⟨a, e, s⟩ := q; exact ⟨a, e, h.seq s⟩
  | opt t ih =>
    intro x vs q
    cases x with
    | none => exact q
    | some y => exact ⟨q.1, ih y vs q.2⟩
  | tup fs ih =>
    intro x vs q
    obtain ⟨a, ws, e, s, r⟩ := q
    exact ⟨a, ws, e, sqT_mono (fun b o z _ => h b o z) s, ih x ws r⟩
  | vtup t ih =>
    intro x vs q
    obtain ⟨a, ws, e, s, r⟩ := q
    exact ⟨a, ws, e, sqT_mono (fun b o z _ => h b o z) s, r.imp fun y w z => ih y [w] z⟩
  | hl fs ih =>
    intro x vs q
    obtain ⟨a, ws, e, s, r⟩ := q
    exact ⟨a, ws, e, h _ _ s, ih x ws r⟩
  | list t ih =>
    intro x vs q
    obtain ⟨a, ws, e, s, r⟩ := q
    exact ⟨a, ws, e, h _ _ s, r.imp fun y w z => ih y [w] z⟩
  | pr a b iha ihb =>
    intro x vs q
    obtain ⟨v, r, e, p1, p2⟩ := q
    exact ⟨v, r, e, iha _ _ p1, ihb _ _ p2⟩
  | nl => intro x vs q; exact q
  | sum a b iha ihb =>
    intro x vs q
    cases x with
    | inl y => exact iha y vs q
    | inr y => exact ihb y vs q
  | ins c ns fs ih =>
    intro x vs q
    obtain ⟨a, C, dx, ws, e, m, g, l, r⟩ := q
    exact ⟨a, C, dx, ws, e, m, h _ _ g, l, ih x ws r⟩
theorem rl_flat {F F' : Hp} (h : ∀ b o, F b = some o → ((∃ xs, o = .tup xs) ∨ (∃ u v, o = .frz u v)) → F' b = some o) :
    ∀ (t : Ty) (_ : t.flat = true) (x : t.den) (vs : List V), rl K mg t x vs F → rl K mg t x vs F' := by
  intro t
  induction t with
  | int => intro _ x vs q; exact q
  | bool => intro _ x vs q; exact q
  | str => intro _ x vs q; exact q
  | non => intro _ x vs q; exact q
  | scr => intro f; cases f
  | opt t ih =>
    intro f x vs q
    cases x with
    | none => exact q
    | some y => exact ⟨q.1, ih f y vs q.2⟩
  | tup fs ih =>
    intro f x vs q
    obtain ⟨a, ws, e, s, r⟩ := q
    exact ⟨a, ws, e, sqT_mono h s, ih f x ws r⟩
  | vtup t ih =>
    intro f x vs q
    obtain ⟨a, ws, e, s, r⟩ := q
    exact ⟨a, ws, e, sqT_mono h s, r.imp fun y w z => ih f y [w] z⟩
  | hl fs ih => intro f; cases f
  | list t ih => intro f; cases f
  | pr a b iha ihb =>
    intro f x vs q
    have f' := (Bool.and_eq_true _ _).mp (show (a.flat && b.flat) = true from f)
    obtain ⟨v, r, e, p1, p2⟩ := q
    exact ⟨v, r, e, iha f'.1 _ _ p1, ihb f'.2 _ _ p2⟩
  | nl => intro _ x vs q; exact q
  | sum a b iha ihb =>
    intro f x vs q
    have f' := (Bool.and_eq_true _ _).mp (show (a.flat && b.flat) = true from f)
    cases x with
    | inl y => exact iha f'.1 y vs q
    | inr y => exact ihb f'.2 y vs q
  | ins c ns fs ih => intro f; cases f
end

/-! ## owned things -/
inductive Ow where
  | d (t : Ty) | l (o : Ow) | ins (c : Str) (ns : List Str) (fs : Ow) | pr (a b : Ow) | nl
@[reducible] def Ow.ty : Ow → Ty
  | .d t => t
  | .l o => .list o.ty
  | .ins c ns fs => .ins c ns fs.ty
  | .pr a b => .pr a.ty b.ty
  | .nl => .nl
def Ow.flat : Ow → Bool
  | .d t => t.flat
  | .l o => o.flat
  | .ins _ _ fs => fs.flat
  | .pr a b => a.flat && b.flat
  | .nl => true
def all3 {α : Type} (R : α → V → List Addr → Prop) : List α → List V → List (List Addr) → Prop
  | [], [], [] => True
  | x :: xs, v :: vs, f :: fs => R x v f ∧ all3 R xs vs fs
  | _, _, _ => False
theorem all3.imp {α : Type} {R S : α → V → List Addr → Prop} : ∀ {xs : List α} {vs : List V} {fs : List (List Addr)}, (∀ x v f, f ∈ fs → R x v f → S x v f) → all3 R xs vs fs → all3 S xs vs fs
  | [], [], [], _, _ => True.intro
  | _ :: _, _ :: _, f :: fs, h, ⟨a, b⟩ => ⟨h _ _ _ (List.mem_cons_self ..) a, all3.imp (fun x v f m => h x v f (List.mem_cons_of_mem _ m)) b⟩
  | [], _ :: _, _, _, z => z.elim
  | [], [], _ :: _, _, z => z.elim
  | _ :: _, [], _, _, z => z.elim
  | _ :: _, _ :: _, [], _, z => z.elim
theorem all3.two {α : Type} {R : α → V → List Addr → Prop} {S : α → V → Prop} : ∀ {xs : List α} {vs : List V} {fs : List (List Addr)}, (∀ x v f, f ∈ fs → R x v f → S x v) → all3 R xs vs fs → all2 S xs vs
  | [], [], [], _, _ => True.intro
  | _ :: _, _ :: _, f :: fs, h, ⟨a, b⟩ => ⟨h _ _ _ (List.mem_cons_self ..) a, all3.two (fun x v f m => h x v f (List.mem_cons_of_mem _ m)) b⟩
  | [], _ :: _, _, _, z => z.elim
  | [], [], _ :: _, _, z => z.elim
  | _ :: _, [], _, _, z => z.elim
  | _ :: _, _ :: _, [], _, z => z.elim
theorem all3.of2 {α : Type} {R : α → V → List Addr → Prop} {S : α → V → Prop} (h : ∀ x v, S x v → R x v []) : ∀ {xs : List α} {vs : List V}, all2 S xs vs → all3 R xs vs (xs.map fun _ => [])
  | [], [], _ => True.intro
  | _ :: _, _ :: _, ⟨a, b⟩ => ⟨h _ _ a, all3.of2 h b⟩
  | [], _ :: _, z => z.elim
  | _ :: _, [], z => z.elim
theorem flat_nil {α β : Type} : ∀ (xs : List α), (xs.map fun _ => ([] : List β)).flatten = []
  | [] => rfl
  | _ :: xs => by
    rw [List.map_cons, List.flatten_cons, flat_nil xs]; rfl

section
variable (K : PySem.W.Frag) (mg : Str → Option Value)
/-- vs stand for x; its changeable cells are fp, as H has them; its data lie in F -/
def ol : (o : Ow) → o.ty.den → List V → Hp → Hp → List Addr → Prop
  | .d t, x, vs, F, _, fp => fp = [] ∧ rl K mg t x vs F
  | .l o, xs, vs, F, H, fp => ∃ p ws fps, vs = [.ref p] ∧ fp = p :: fps.flatten ∧ H p = some (.lst ws) ∧ all3 (fun x w f => ol o x [w] F H f) xs ws fps
  | .ins c ns fs, x, vs, F, H, fp => ∃ p C dx ws fp', vs = [.ref p] ∧ fp = p :: dx :: fp' ∧ mg c = some (.ref C) ∧ H p = some (.ins C dx (ns.zip ws)) ∧ H dx = some (.own p) ∧ ns.length = ws.length ∧ ol fs x ws F H fp'
  | .pr a b, x, vs, F, H, fp => ∃ v r f1 f2, vs = v :: r ∧ fp = f1 ++ f2 ∧ ol a x.1 [v] F H f1 ∧ ol b x.2 r F H f2
  | .nl, _, vs, _, _, fp => vs = [] ∧ fp = []
end
/-- no tuple and nothing frozen -/
def Cell (H : Hp) (a : Addr) : Prop := ∃ o, H a = some o ∧ (∀ xs, o ≠ .tup xs) ∧ ∀ u v, o ≠ .frz u v
section
variable {K : PySem.W.Frag} {mg : Str → Option Value}
theorem ol_frame {F F' H H' : Hp} (h : Same F F') : ∀ (o : Ow) (x : o.ty.den) (vs : List V) (fp : List Addr), (∀ a ∈ fp, H' a = H a) → ol K mg o x vs F H fp → ol K mg o x vs F' H' fp := by
  intro o
  induction o with
  | d t => intro x vs fp _ q; exact ⟨q.1, rl_mono h t x vs q.2⟩
  | l o ih =>
    intro xs vs fp hf q
    obtain ⟨p, ws, fps, e1, e2, e3, r⟩ := q
    subst e2
    refine ⟨p, ws, fps, e1, rfl, (hf p (List.mem_cons_self ..)).trans e3, r.imp fun x w f m z => ih x [w] f (fun a ha => hf a ?_) z⟩
    exact List.mem_cons_of_mem _ (List.mem_flatten.mpr ⟨f, m, ha⟩)
  | ins c ns fs ih =>
    intro x vs fp hf q
    obtain ⟨p, C, dx, ws, fp', e1, e2, e3, e4, e5, e6, r⟩ := q
    subst e2
    exact ⟨p, C, dx, ws, fp', e1, rfl, e3, (hf p (by simp)).trans e4, (hf dx (by simp)).trans e5, e6, ih x ws fp' (fun a ha => hf a (by simp [ha])) r⟩
  | pr a b iha ihb =>
    intro x vs fp hf q
    obtain ⟨v, r, f1, f2, e1, e2, r1, r2⟩ := q
    subst e2
    exact ⟨v, r, f1, f2, e1, rfl, iha _ _ _ (fun a ha => hf a (List.mem_append_left _ ha)) r1, ihb _ _ _ (fun a ha => hf a (List.mem_append_right _ ha)) r2⟩
  | nl => intro x vs fp _ q; exact q
theorem ol_cell {F H : Hp} : ∀ (o : Ow) (x : o.ty.den) (vs : List V) (fp : List Addr), ol K mg o x vs F H fp → ∀ a ∈ fp, Cell H a := by
  intro o
  induction o with
  | d t => intro x vs fp q a ha; rw [q.1] at ha; cases ha
  | l o ih =>
    intro xs vs fp q a ha
    obtain ⟨p, ws, fps, e1, e2, e3, r⟩ := q
    subst e2
    rcases List.mem_cons.mp ha with rfl | ha
    · exact ⟨_, e3, fun _ z => (nomatch z), fun _ _ z => (nomatch z)⟩
    · obtain ⟨f, hf, ha⟩ := List.mem_flatten.mp ha
      have : ∀ {xs : List o.ty.den} {ws : List V} {fps : List (List Addr)}, all3 (fun x w f => ol K mg o x [w] F H f) xs ws fps → f ∈ fps → Cell H a := by
        intro xs
        induction xs with
        | nil =>
          intro ws fps r m
          cases ws with
          | nil =>
            cases fps with
            | nil => cases m
            | cons _ _ => exact r.elim
          | cons _ _ => exact r.elim
        | cons x xs ihx =>
          intro ws fps r m
          cases ws with
          | nil => exact r.elim
          | cons w ws =>
            cases fps with
            | nil => exact r.elim
            | cons g fps =>
              rcases List.mem_cons.mp m with rfl | m
              · exact ih x [w] _ r.1 a ha
              · exact ihx r.2 m
      exact this r hf
  | ins c ns fs ih =>
    intro x vs fp q a ha
    obtain ⟨p, C, dx, ws, fp', e1, e2, e3, e4, e5, e6, r⟩ := q
    subst e2
    rcases List.mem_cons.mp ha with rfl | ha
    · exact ⟨_, e4, fun _ z => (nomatch z), fun _ _ z => (nomatch z)⟩
    rcases List.mem_cons.mp ha with rfl | ha
    · exact ⟨_, e5, fun _ z => (nomatch z), fun _ _ z => (nomatch z)⟩
    exact ih x ws fp' r a ha
  | pr a b iha ihb =>
    intro x vs fp q c hc
    obtain ⟨v, r, f1, f2, e1, e2, r1, r2⟩ := q
    subst e2
    rcases List.mem_append.mp hc with h | h
    · exact iha _ _ _ r1 c h
    · exact ihb _ _ _ r2 c h
  | nl => intro x vs fp q a ha; rw [q.2] at ha; cases ha
/-- frozen: F with the cells -/
theorem ol_rl {F F' H : Hp} (h : Same F F') : ∀ (o : Ow) (x : o.ty.den) (vs : List V) (fp : List Addr), (∀ a ∈ fp, F' a = H a) → ol K mg o x vs F H fp → rl K mg o.ty x vs F' := by
  intro o
  induction o with
  | d t => intro x vs fp _ q; exact rl_mono h t x vs q.2
  | l o ih =>
    intro xs vs fp hf q
    obtain ⟨p, ws, fps, e1, e2, e3, r⟩ := q
    subst e2
    refine ⟨p, ws, e1, (hf p (List.mem_cons_self ..)).trans e3, r.two fun x w f m z => ih x [w] f (fun a ha => hf a ?_) z⟩
    exact List.mem_cons_of_mem _ (List.mem_flatten.mpr ⟨f, m, ha⟩)
  | ins c ns fs ih =>
    intro x vs fp hf q
    obtain ⟨p, C, dx, ws, fp', e1, e2, e3, e4, e5, e6, r⟩ := q
    subst e2
    exact ⟨p, C, dx, ws, e1, e3, (hf p (by simp)).trans e4, e6, ih x ws fp' (fun a ha => hf a (by simp [ha])) r⟩
  | pr a b iha ihb =>
    intro x vs fp hf q
    obtain ⟨v, r, f1, f2, e1, e2, r1, r2⟩ := q
    subst e2
    exact ⟨v, r, e1, iha _ _ _ (fun a ha => hf a (List.mem_append_left _ ha)) r1, ihb _ _ _ (fun a ha => hf a (List.mem_append_right _ ha)) r2⟩
  | nl => intro x vs fp _ q; exact q.1
theorem ol_flat {F F' H : Hp} (h : ∀ b o, F b = some o → ((∃ xs, o = .tup xs) ∨ (∃ u v, o = .frz u v)) → F' b = some o) :
    ∀ (o : Ow) (_ : o.flat = true) (x : o.ty.den) (vs : List V) (fp : List Addr), ol K mg o x vs F H fp → ol K mg o x vs F' H fp := by
  intro o
  induction o with
  | d t => intro f x vs fp q; exact ⟨q.1, rl_flat h t f x vs q.2⟩
  | l o ih =>
    intro f xs vs fp q
    obtain ⟨p, ws, fps, e1, e2, e3, r⟩ := q
    exact ⟨p, ws, fps, e1, e2, e3, r.imp fun x w g m z => ih f x [w] g z⟩
  | ins c ns fs ih =>
    intro f x vs fp q
    obtain ⟨p, C, dx, ws, fp', e1, e2, e3, e4, e5, e6, r⟩ := q
    exact ⟨p, C, dx, ws, fp', e1, e2, e3, e4, e5, e6, ih f x ws fp' r⟩
  | pr a b iha ihb =>
    intro f x vs fp q
    have f' := (Bool.and_eq_true _ _).mp (show (a.flat && b.flat) = true from f)
    obtain ⟨v, r, f1, f2, e1, e2, r1, r2⟩ := q
    exact ⟨v, r, f1, f2, e1, e2, iha f'.1 _ _ _ r1, ihb f'.2 _ _ _ r2⟩
  | nl => intro _ x vs fp q; exact q
end

/-! ## growing heaps -/
structure Ext (F H F' H' : Hp) : Prop where
  f : Same F F'
  h : Same H H'
  i : Same F' H'
  n : ∀ p, H p ≠ none → F p = none → F' p = none
theorem Ext.refl {F H : Hp} (h : Same F H) : Ext F H F H := ⟨Same.refl _, Same.refl _, h, fun _ _ q => q⟩
theorem Ext.trans {F H F1 H1 F2 H2 : Hp} (a : Ext F H F1 H1) (b : Ext F1 H1 F2 H2) : Ext F H F2 H2 :=
  ⟨a.f.trans b.f, a.h.trans b.h, b.i, fun p hp hf => b.n p (fun z => hp (a.h.free z)) (a.n p hp hf)⟩
/-- a new object, known to F -/
theorem Ext.new {F H : Hp} {p : Addr} {o : HO} (h : Same F H) (n : H p = none) : Ext F H (upd F p o) (upd H p o) := by
  have nf : F p = none := h.free n
  refine ⟨fun b u e => by rw [upd_ne (ne_of_none e nf)]; exact e, fun b u e => by rw [upd_ne (ne_of_none e n)]; exact e, fun b u e => ?_, fun q hq hf => ?_⟩
  · by_cases hb : b = p
    · subst hb; rw [upd_same] at e ⊢; exact e
    · rw [upd_ne hb] at e ⊢; exact h _ _ e
  · have : q ≠ p := fun z => hq (z ▸ n)
    rw [upd_ne this]; exact hf
/-- a new object that F does not know -/
theorem Ext.cell {F H : Hp} {p : Addr} {o : HO} (h : Same F H) (n : H p = none) : Ext F H F (upd H p o) := by
  refine ⟨Same.refl _, fun b u e => by rw [upd_ne (ne_of_none e n)]; exact e, fun b u e => ?_, fun q hq hf => hf⟩
  have e' := h _ _ e
  rw [upd_ne (ne_of_none e' n)]; exact e'
/-- a heap grows, F stands -/
theorem Ext.grow {F H H' : Hp} (h : Same F H) (g : Same H H') : Ext F H F H' := ⟨Same.refl _, g, h.trans g, fun _ _ q => q⟩

/-! ## results -/
inductive Rt where
  | d (t : Ty) | o (o : Ow)
@[reducible] def Rt.ty : Rt → Ty
  | .d t => t
  | .o u => u.ty
abbrev Rt.den (r : Rt) : Type := r.ty.den
def Rt.flat : Rt → Bool
  | .d t => t.flat
  | .o u => u.flat
section
variable (K : PySem.W.Frag) (mg : Str → Option Value)
/-- v stands for x behind; H: the heap ahead -/
def rtr : (r : Rt) → r.den → V → Hp → Hp → Hp → Prop
  | .d t, x, v, _, F', _ => rl K mg t x [v] F'
  | .o o, x, v, H, F', H' => ∃ fp, ol K mg o x [v] F' H' fp ∧ fp.Nodup ∧ ∀ a ∈ fp, F' a = none ∧ H a = none
end
/-- how an exception lies -/
def xr (mg : Str → Option Value) (e : Exn) (cls : Value) (d : Option Addr) (H : Hp) : Prop :=
  ∃ C, mg e.c = some (.ref C) ∧ cls = .ref C ∧ match e.p with
    | .n => d = none
    | .i z => ∃ dx, d = some dx ∧ H dx = some (.xd [(e.f, .int z)])
    | .s z => ∃ dx, d = some dx ∧ H dx = some (.xd [(e.f, .str z)])

/-! ## contexts -/
inductive Slot where
  | no | d (t : Ty) (x : t.den) | o (o : Ow) (x : o.ty.den)
abbrev Ctx := List Slot
@[reducible] def slotOf : (r : Rt) → r.den → Slot
  | .d t, x => .d t x
  | .o o, x => .o o x
def Slot.hide : Slot → Slot
  | .o _ _ => .no
  | s => s
def hide : Ctx → Ctx
  | [] => []
  | s :: r => s.hide :: hide r
theorem hide_get : ∀ {Γ : Ctx} {i : Nat} {s : Slot}, (hide Γ)[i]? = some s → ∃ u, Γ[i]? = some u ∧ s = u.hide
  | [], _, _, e => by simp [hide] at e
  | u :: _, 0, s, e => ⟨u, rfl, by simpa [hide] using e.symm⟩
  | _ :: Γ, i + 1, s, e => by
    have e' : (hide Γ)[i]? = some s := by simpa [hide] using e
    obtain ⟨u, h1, h2⟩ := hide_get e'
    exact ⟨u, by simpa using h1, h2⟩
section
variable (K : PySem.W.Frag) (mg : Str → Option Value)
def sd : Slot → Option V → Hp → Prop
  | .no, _, _ => True
  | .d t x, ov, F => ∃ v, ov = some v ∧ rl K mg t x [v] F
  | .o o x, ov, F => ∃ v, ov = some v ∧ rl K mg o.ty x [v] F
def so : Slot → Option V → Hp → Hp → List Addr → Prop
  | .no, _, _, _, fp => fp = []
  | .d t x, ov, F, _, fp => fp = [] ∧ ∃ v, ov = some v ∧ rl K mg t x [v] F
  | .o o x, ov, F, H, fp => ∃ v, ov = some v ∧ ol K mg o x [v] F H fp
def SD (Γ : Ctx) (σ : St) (F : Hp) : Prop := ∀ (i : Nat) (s : Slot), Γ[i]? = some s → ∃ ov, σ[i]? = some ov ∧ sd K mg s ov F
structure Own (Γ : Ctx) (σ : St) (F H B : Hp) (fps : Nat → List Addr) : Prop where
  at_ : ∀ (i : Nat) (s : Slot), Γ[i]? = some s → ∃ ov, σ[i]? = some ov ∧ so K mg s ov F H (fps i)
  out : ∀ i, Γ[i]? = none → fps i = []
  nd : ∀ i, (fps i).Nodup
  sep : ∀ i j, i ≠ j → ∀ a ∈ fps i, a ∉ fps j
  new : ∀ i, ∀ a ∈ fps i, F a = none ∧ B a = none
end
/-- the entry: the frozen heap, the heap, slots that stay (within a try), what they hold -/
structure Ent where
  F0 : Hp
  B : Hp
  hk : List Nat
  s0 : St
section
variable (K : PySem.W.Frag) (mg : Str → Option Value)
structure SG (E : Ent) (Γ : Ctx) (σ : St) (F H : Hp) : Prop where
  e0 : Ext E.F0 E.B F H
  kp : ∀ i ∈ E.hk, σ[i]? = E.s0[i]?
  ow : ∃ fps, Own K mg Γ σ F H E.B fps
end
section
variable {K : PySem.W.Frag} {mg : Str → Option Value} {Γ : Ctx} {σ : St} {F F' H H' B : Hp} {E : Ent}
theorem sd_mono (h : Same F F') : ∀ {s : Slot} {ov : Option V}, sd K mg s ov F → sd K mg s ov F'
  | .no, _, _ => True.intro
  | .d t x, _, ⟨v, e, r⟩ => ⟨v, e, rl_mono h t x _ r⟩
  | .o o x, _, ⟨v, e, r⟩ => ⟨v, e, rl_mono h o.ty x _ r⟩
theorem SD.mono (q : SD K mg Γ σ F) (h : Same F F') : SD K mg Γ σ F' := fun i s e => let ⟨ov, e1, r⟩ := q i s e; ⟨ov, e1, sd_mono h r⟩
theorem so_cell : ∀ {s : Slot} {ov : Option V} {fp : List Addr}, so K mg s ov F H fp → ∀ a ∈ fp, Cell H a
  | .no, _, _, e, a, ha => by rw [show _ = _ from e] at ha; cases ha
  | .d t x, _, _, ⟨e, _⟩, a, ha => by rw [e] at ha; cases ha
  | .o o x, _, _, ⟨_, _, r⟩, a, ha => ol_cell o x _ _ r a ha
theorem so_frame (h : Same F F') : ∀ {s : Slot} {ov : Option V} {fp : List Addr}, (∀ a ∈ fp, H' a = H a) → so K mg s ov F H fp → so K mg s ov F' H' fp
  | .no, _, _, _, e => e
  | .d t x, _, _, _, ⟨e, v, e1, r⟩ => ⟨e, v, e1, rl_mono h t x _ r⟩
  | .o o x, _, _, hf, ⟨v, e1, r⟩ => ⟨v, e1, ol_frame h o x _ _ hf r⟩
theorem Own.cell {fps : Nat → List Addr} (q : Own K mg Γ σ F H B fps) (i : Nat) : ∀ a ∈ fps i, Cell H a := fun a ha => by
  cases e : Γ[i]? with
  | none => rw [q.out i e] at ha; cases ha
  | some s =>
    obtain ⟨ov, _, r⟩ := q.at_ i s e
    exact so_cell r a ha
/-- all that is owned, frozen -/
noncomputable def frozen (F H : Hp) (fps : Nat → List Addr) : Hp := open Classical in fun a => if ∃ i, a ∈ fps i then H a else F a
theorem frozen_in {fps : Nat → List Addr} {i : Nat} {a : Addr} (h : a ∈ fps i) : frozen F H fps a = H a := by
  unfold frozen; rw [if_pos ⟨i, h⟩]
theorem frozen_out {fps : Nat → List Addr} {a : Addr} (h : ∀ i, a ∉ fps i) : frozen F H fps a = F a := by
  unfold frozen; rw [if_neg fun ⟨i, z⟩ => h i z]
theorem Own.f_frozen {fps : Nat → List Addr} (q : Own K mg Γ σ F H B fps) : Same F (frozen F H fps) := fun b o e => by
  rw [frozen_out fun i hi => by rw [(q.new i b hi).1] at e; cases e]; exact e
theorem Own.frozen_h {fps : Nat → List Addr} (q : Own K mg Γ σ F H B fps) (hs : Same F H) : Same (frozen F H fps) H := fun b o e => by
  by_cases h : ∃ i, b ∈ fps i
  · obtain ⟨i, hi⟩ := h
    rw [frozen_in hi] at e; exact e
  · rw [frozen_out fun i hi => h ⟨i, hi⟩] at e; exact hs _ _ e
theorem Own.sd {fps : Nat → List Addr} (q : Own K mg Γ σ F H B fps) : SD K mg Γ σ (frozen F H fps) := fun i s e => by
  obtain ⟨ov, e1, r⟩ := q.at_ i s e
  refine ⟨ov, e1, ?_⟩
  cases s with
  | no => exact True.intro
  | d t x => exact sd_mono q.f_frozen r.2
  | o o x =>
    obtain ⟨v, e2, r⟩ := r
    exact ⟨v, e2, ol_rl q.f_frozen o x _ _ (fun a ha => frozen_in ha) r⟩
theorem SG.sd_hide (q : SG K mg E Γ σ F H) : SD K mg (hide Γ) σ F := fun i s e => by
  obtain ⟨_, _, fps, q⟩ := q
  obtain ⟨u, e1, rfl⟩ := hide_get e
  obtain ⟨ov, e2, r⟩ := q.at_ i u e1
  refine ⟨ov, e2, ?_⟩
  cases u with
  | no => exact True.intro
  | d t x => exact r.2
  | o o x => exact True.intro
/-- F' without what is owned in F's place -/
noncomputable def unfreeze (F' : Hp) (fps : Nat → List Addr) : Hp := open Classical in fun a => if ∃ i, a ∈ fps i then none else F' a
theorem unfreeze_in {fps : Nat → List Addr} {i : Nat} {a : Addr} (h : a ∈ fps i) : unfreeze F fps a = none := by
  unfold unfreeze; rw [if_pos ⟨i, h⟩]
theorem unfreeze_out {fps : Nat → List Addr} {a : Addr} (h : ∀ i, a ∉ fps i) : unfreeze F fps a = F a := by
  unfold unfreeze; rw [if_neg fun ⟨i, z⟩ => h i z]
theorem unfreeze_le {fps : Nat → List Addr} : Same (unfreeze F fps) F := fun b o e => by
  by_cases h : ∃ i, b ∈ fps i
  · obtain ⟨i, hi⟩ := h
    rw [unfreeze_in hi] at e; cases e
  · rw [unfreeze_out fun i hi => h ⟨i, hi⟩] at e; exact e
/-- behind an evaluation under the view that all that is owned is frozen -/
theorem Own.back {fps : Nat → List Addr} (q : Own K mg Γ σ F H B fps) (hs : Same F H) (x : Ext (frozen F H fps) H F' H') :
    Ext F H (unfreeze F' fps) H' ∧ ∀ b o, F' b = some o → ((∃ xs, o = .tup xs) ∨ (∃ u v, o = .frz u v)) → (unfreeze F' fps) b = some o := by
  refine ⟨⟨fun b o e => ?_, x.h, fun b o e => x.i _ _ (unfreeze_le _ _ e), fun p hp hf => ?_⟩, fun b o e hk => ?_⟩
  · rw [unfreeze_out fun i hi => by rw [(q.new i b hi).1] at e; cases e]
    exact x.f _ _ (q.f_frozen _ _ e)
  · by_cases h : ∃ i, p ∈ fps i
    · obtain ⟨i, hi⟩ := h
      exact unfreeze_in hi
    · rw [unfreeze_out fun i hi => h ⟨i, hi⟩]
      exact x.n p hp (by rw [frozen_out fun i hi => h ⟨i, hi⟩]; exact hf)
  · refine (unfreeze_out fun i hi => ?_).trans e
    obtain ⟨u, h1, h2, h3⟩ := q.cell i b hi
    have e1 := x.i _ _ e
    rw [x.h _ _ h1] at e1
    cases e1
    rcases hk with ⟨xs, rfl⟩ | ⟨c, d, rfl⟩
    · exact h2 _ rfl
    · exact h3 _ _ rfl
theorem rtr_flat {r : Rt} (hf : r.flat = true) {G : Hp} {x : r.den} {v : V} (h : ∀ b o, F b = some o → ((∃ xs, o = .tup xs) ∨ (∃ u v, o = .frz u v)) → G b = some o) (hg : Same G F)
    (q : rtr K mg r x v H F H') : rtr K mg r x v H G H' := by
  cases r with
  | d t => exact rl_flat h t hf x _ q
  | o u =>
    obtain ⟨fp, q, nd, nw⟩ := q
    exact ⟨fp, ol_flat h u hf x _ _ q, nd, fun a ha => ⟨hg.free (nw a ha).1, (nw a ha).2⟩⟩
/-- the central step: an evaluation of a flat result under the view -/
theorem SG.eval (q : SG K mg E Γ σ F H) {r : Rt} (hf : r.flat = true) : ∃ G, Same G H ∧ Same F G ∧ SD K mg Γ σ G ∧
    ∀ F' H', Ext G H F' H' → ∃ F2, Ext F H F2 H' ∧ Same F2 F' ∧ ∀ (x : r.den) (v : V), rtr K mg r x v H F' H' → rtr K mg r x v H F2 H' := by
  obtain ⟨e0, _, fps, q⟩ := q
  refine ⟨frozen F H fps, q.frozen_h e0.i, q.f_frozen, q.sd, fun F' H' x => ?_⟩
  obtain ⟨y, z⟩ := q.back e0.i x
  exact ⟨_, y, unfreeze_le, fun x v r => rtr_flat hf z unfreeze_le r⟩
theorem Own.grow {fps : Nat → List Addr} (q : Own K mg Γ σ F H B fps) (x : Ext F H F' H') : Own K mg Γ σ F' H' B fps := by
  refine ⟨fun i s e => ?_, q.out, q.nd, q.sep, fun i a ha => ⟨x.n a ?_ (q.new i a ha).1, (q.new i a ha).2⟩⟩
  · obtain ⟨ov, e1, r⟩ := q.at_ i s e
    refine ⟨ov, e1, so_frame x.f (fun a ha => ?_) r⟩
    obtain ⟨o, h1, _⟩ := so_cell r a ha
    rw [h1, x.h _ _ h1]
  · obtain ⟨o, h1, _⟩ := q.cell i a ha
    rw [h1]; exact fun z => nomatch z
/-- one slot anew -/
theorem Own.put {fps : Nat → List Addr} {i : Nat} {s : Slot} {ov : Option V} {fp : List Addr} (q : Own K mg Γ σ F H B fps) (hi : i < Γ.length) (r : so K mg s ov F H fp) (nd : fp.Nodup)
    (sep : ∀ j, j ≠ i → ∀ a ∈ fp, a ∉ fps j) (nw : ∀ a ∈ fp, F a = none ∧ B a = none) : Own K mg (Γ.set i s) (σ.set i ov) F H B (fun j => if j = i then fp else fps j) := by
  have his : i < σ.length := by
    obtain ⟨ov', e, _⟩ := q.at_ i Γ[i] (List.getElem?_eq_getElem hi)
    exact (List.getElem?_eq_some_iff.mp e).1
  refine ⟨fun j s' e => ?_, fun j e => ?_, fun j => ?_, fun j k hjk a ha => ?_, fun j a ha => ?_⟩
  · by_cases hj : j = i
    · subst hj
      rw [List.getElem?_set_self hi] at e
      cases e
      exact ⟨ov, List.getElem?_set_self his, by rw [if_pos rfl]; exact r⟩
    · rw [List.getElem?_set_ne (Ne.symm hj)] at e
      obtain ⟨ov', e1, r'⟩ := q.at_ j s' e
      exact ⟨ov', by rw [List.getElem?_set_ne (Ne.symm hj)]; exact e1, by rw [if_neg hj]; exact r'⟩
  · have hj : j ≠ i := fun z => by
      subst z
      rw [List.getElem?_set_self hi] at e; cases e
    rw [List.getElem?_set_ne (Ne.symm hj)] at e
    rw [if_neg hj]; exact q.out j e
  · by_cases hj : j = i
    · rw [if_pos hj]; exact nd
    · rw [if_neg hj]; exact q.nd j
  · by_cases hj : j = i
    · have hk : k ≠ i := fun z => hjk (hj.trans z.symm)
      rw [if_pos hj] at ha
      rw [if_neg hk]; exact sep k hk a ha
    · rw [if_neg hj] at ha
      by_cases hk : k = i
      · rw [if_pos hk]; exact fun z => sep j hj a z ha
      · rw [if_neg hk]; exact q.sep j k hjk a ha
  · by_cases hj : j = i
    · rw [if_pos hj] at ha; exact nw a ha
    · rw [if_neg hj] at ha; exact q.new j a ha
/-- the state behind a growth that leaves what is owned -/
theorem SG.grow (q : SG K mg E Γ σ F H) (x : Ext F H F' H') : SG K mg E Γ σ F' H' :=
  let ⟨e0, kp, fps, g⟩ := q
  ⟨e0.trans x, kp, fps, g.grow x⟩
/-- a slot is set to what an evaluation gave -/
theorem SG.set {r : Rt} {x : r.den} {v : V} {i : Nat} (q : SG K mg E Γ σ F H) (e : Ext F H F' H') (rr : rtr K mg r x v H F' H') (hi : i < Γ.length) (hk : i ∉ E.hk) : SG K mg E (Γ.set i (slotOf r x)) (σ.set i (some v)) F' H' := by
  obtain ⟨e0, kp, fps, g⟩ := q
  have g1 := g.grow e
  have kp' : ∀ j ∈ E.hk, (σ.set i (some v))[j]? = E.s0[j]? := fun j hj => by
    rw [List.getElem?_set_ne (show i ≠ j from fun z => hk (by rw [z]; exact hj))]; exact kp j hj
  cases r with
  | d t => exact ⟨e0.trans e, kp', _, g1.put hi (fp := []) ⟨rfl, v, rfl, rr⟩ List.nodup_nil (fun _ _ a ha => nomatch ha) (fun a ha => nomatch ha)⟩
  | o u =>
    obtain ⟨fp, o1, nd, nw⟩ := rr
    refine ⟨e0.trans e, kp', _, g1.put hi (fp := fp) ⟨v, rfl, o1⟩ nd (fun j _ a ha z => ?_) fun a ha => ⟨(nw a ha).1, e0.h.free (nw a ha).2⟩⟩
    obtain ⟨o, h1, _⟩ := g.cell j a z
    rw [(nw a ha).2] at h1; cases h1
/-- a slot is forgotten -/
theorem SG.drop {i : Nat} (q : SG K mg E Γ σ F H) (hi : i < Γ.length) : SG K mg E (Γ.set i .no) σ F H := by
  obtain ⟨e0, kp, fps, g⟩ := q
  obtain ⟨ov, e, _⟩ := g.at_ i Γ[i] (List.getElem?_eq_getElem hi)
  have h := g.put (s := .no) (ov := ov) (fp := []) hi rfl List.nodup_nil (fun _ _ a ha => nomatch ha) (fun a ha => nomatch ha)
  have es : σ.set i ov = σ := by
    obtain ⟨hl, e⟩ := List.getElem?_eq_some_iff.mp e
    rw [← e]; exact List.set_getElem_self hl
  rw [es] at h
  exact ⟨e0, kp, _, h⟩
/-- a slot's owned thing is frozen -/
theorem SG.freeze {i : Nat} {o : Ow} {x : o.ty.den} (q : SG K mg E Γ σ F H) (hi : Γ[i]? = some (.o o x)) : ∃ F', SG K mg E (Γ.set i (.d o.ty x)) σ F' H := by
  obtain ⟨e0, kp, fps, g⟩ := q
  have hil : i < Γ.length := (List.getElem?_eq_some_iff.mp hi).1
  obtain ⟨ov, e, v, rfl, r⟩ := g.at_ i _ hi
  -- F with the cells of slot i alone
  let fi : Nat → List Addr := fun j => if j = i then fps i else []
  have fin : ∀ a, a ∈ fps i → frozen F H fi a = H a := fun a ha => frozen_in (i := i) (by show a ∈ (if i = i then fps i else []); rw [if_pos rfl]; exact ha)
  have fout : ∀ a, a ∉ fps i → frozen F H fi a = F a := fun a ha => frozen_out fun j hj => by
    have hj : a ∈ (if j = i then fps i else []) := hj
    by_cases z : j = i
    · rw [if_pos z] at hj; exact ha hj
    · rw [if_neg z] at hj; cases hj
  have le : Same F (frozen F H fi) := fun b u eb => by
    rw [fout b fun hb => by rw [(g.new i b hb).1] at eb; cases eb]; exact eb
  have up : Same (frozen F H fi) H := fun b u eb => by
    by_cases hb : b ∈ fps i
    · rw [fin b hb] at eb; exact eb
    · rw [fout b hb] at eb; exact e0.i _ _ eb
  refine ⟨frozen F H fi, ⟨e0.f.trans le, e0.h, up, fun p hp hf => ?_⟩, kp, fun j => if j = i then [] else fps j, ?_⟩
  · by_cases hb : p ∈ fps i
    · exact absurd (g.new i p hb).2 hp
    · rw [fout p hb]; exact e0.n p hp hf
  · refine ⟨fun j s e1 => ?_, fun j e1 => ?_, fun j => ?_, fun j k hjk a ha => ?_, fun j a ha => ?_⟩
    · by_cases hj : j = i
      · subst hj
        rw [List.getElem?_set_self hil] at e1
        cases e1
        exact ⟨_, e, by rw [if_pos rfl], v, rfl, ol_rl le o x _ _ (fun a ha => fin a ha) r⟩
      · rw [List.getElem?_set_ne (Ne.symm hj)] at e1
        obtain ⟨ov', e2, r'⟩ := g.at_ j s e1
        exact ⟨ov', e2, by rw [if_neg hj]; exact so_frame le (fun _ _ => rfl) r'⟩
    · by_cases hj : j = i
      · rw [if_pos hj]
      · rw [List.getElem?_set_ne (Ne.symm hj)] at e1
        rw [if_neg hj]; exact g.out j e1
    · by_cases hj : j = i
      · rw [if_pos hj]; exact List.nodup_nil
      · rw [if_neg hj]; exact g.nd j
    · by_cases hj : j = i
      · rw [if_pos hj] at ha; cases ha
      · rw [if_neg hj] at ha
        by_cases hk : k = i
        · rw [if_pos hk]; exact fun z => nomatch z
        · rw [if_neg hk]; exact g.sep j k hjk a ha
    · by_cases hj : j = i
      · rw [if_pos hj] at ha; cases ha
      · rw [if_neg hj] at ha
        refine ⟨?_, (g.new j a ha).2⟩
        rw [fout a fun z => g.sep j i hj a ha z]; exact (g.new j a ha).1
end
end Gm
set_option Elab.async false
set_option linter.all false
set_option maxRecDepth 100000
set_option maxHeartbeats 4000000
namespace Gm
open PySem L2

/-! ## readings -/
section
variable (mg : Str → Option Value)
def post (W : WX) (σ : St) {α : Type} (m : Mx α) (F H : Hp) (P : α → Prop) : Prop := match m with
  | .ok x => P x
  | .ex e => ∀ cls d F' H', Ext F H F' H' → xr mg e cls d H' → W cls d σ H'
  | .no => False
variable (K : PySem.W.Frag)
def tR (W : WX) (Γ : Ctx) (r : Rt) (m : Mx r.den) : TE := fun σ H Q => ∃ F, Same F H ∧ SD K mg Γ σ F ∧
  post mg W σ m F H fun x => ∀ v F' H', Ext F H F' H' → rtr K mg r x v H F' H' → Q v H'
/-- arguments -/
def tA (W : WX) (Γ : Ctx) (ts : Ty) (m : Mx ts.den) : TA := fun σ H Q => ∃ F, Same F H ∧ SD K mg Γ σ F ∧
  post mg W σ m F H fun x => ∀ vs F' H', Ext F H F' H' → rl K mg ts x vs F' → Q vs H'
/-- a test -/
def tT (W : WX) (Γ : Ctx) (m : Mx Bool) : TT := fun σ H Q => ∃ F, Same F H ∧ SD K mg Γ σ F ∧
  post mg W σ m F H fun b => ∀ F' H', Ext F H F' H' → Q b H'
/-- a slice's end -/
def tP (W : WX) (Γ : Ctx) (m : Mx (Option Int)) : TO := fun σ H Q => ∃ F, Same F H ∧ SD K mg Γ σ F ∧
  post mg W σ m F H fun b => ∀ F' H', Ext F H F' H' → Q b H'
end
section
variable {mg : Str → Option Value} {K : PySem.W.Frag} {W : WX} {σ : St} {F H F' H' : Hp} {α β : Type}
theorem post.bind {m : Mx α} {k : α → Mx β} {P : β → Prop} (h : post mg W σ (m >>= k) F H P) : post mg W σ m F H fun x => post mg W σ (k x) F H P := by
  cases m with
  | ok a => exact h
  | ex e => exact h
  | no => exact h
theorem post.mono {m : Mx α} {P P' : α → Prop} (h : post mg W σ m F H P) (i : ∀ x, P x → P' x) : post mg W σ m F H P' := by
  cases m with
  | ok a => exact i a h
  | ex e => exact h
  | no => exact h
theorem post.ext {m : Mx α} {P P' : α → Prop} (x : Ext F H F' H') (h : post mg W σ m F H P) (i : ∀ x, P x → P' x) : post mg W σ m F' H' P' := by
  cases m with
  | ok a => exact i a h
  | ex e => exact fun cls d F2 H2 e2 r => h cls d F2 H2 (x.trans e2) r
  | no => exact h
theorem rtr_pre {r : Rt} {x : r.den} {v : V} {G : Hp} (g : Same H G) (q : rtr K mg r x v G F' H') : rtr K mg r x v H F' H' := by
  cases r with
  | d t => exact q
  | o u =>
    obtain ⟨fp, h1, h2, h3⟩ := q
    exact ⟨fp, h1, h2, fun a ha => ⟨(h3 a ha).1, g.free (h3 a ha).2⟩⟩
end
abbrev ER (X : Cx) (W : WX) (Γ : Ctx) (e : Expr) (r : Rt) (m : Mx r.den) : Prop := PE X e (tR X.mg X.K W Γ r m)
abbrev EM (X : Cx) (W : WX) (Γ : Ctx) (e : Expr) (t : Ty) (m : Mx t.den) : Prop := PE X e (tR X.mg X.K W Γ (.d t) m)
abbrev EO (X : Cx) (W : WX) (Γ : Ctx) (e : Expr) (o : Ow) (m : Mx o.ty.den) : Prop := PE X e (tR X.mg X.K W Γ (.o o) m)
abbrev EA (X : Cx) (W : WX) (Γ : Ctx) (es : List Expr) (ts : Ty) (m : Mx ts.den) : Prop := PA X es (tA X.mg X.K W Γ ts m)
abbrev ET (X : Cx) (W : WX) (Γ : Ctx) (e : Expr) (m : Mx Bool) : Prop := PT X e (tT X.mg X.K W Γ m)
abbrev EP' (X : Cx) (W : WX) (Γ : Ctx) (e : Option Expr) (m : Mx (Option Int)) : Prop := PO X e (tP X.mg X.K W Γ m)
theorem pe_imp {X : Cx} {e : Expr} {t t' : TE} (h : PE X e t) (i : ∀ σ H Q, t' σ H Q → t σ H Q) : PE X e t' := ⟨fun pins s σ H Q I q => h.run pins s σ H Q I (i σ H Q q)⟩
theorem pa_imp {X : Cx} {e : List Expr} {t t' : TA} (h : PA X e t) (i : ∀ σ H Q, t' σ H Q → t σ H Q) : PA X e t' := ⟨fun pos pins s σ H Q I q => h.run pos pins s σ H Q I (i σ H Q q)⟩
theorem pt_imp {X : Cx} {e : Expr} {t t' : TT} (h : PT X e t) (i : ∀ σ H Q, t' σ H Q → t σ H Q) : PT X e t' := ⟨fun pins s σ H Q I q => h.run pins s σ H Q I (i σ H Q q)⟩
theorem po_imp {X : Cx} {e : Option Expr} {t t' : TO} (h : PO X e t) (i : ∀ σ H Q, t' σ H Q → t σ H Q) : PO X e t' := ⟨fun pins s σ H Q I q => h.run pins s σ H Q I (i σ H Q q)⟩

def ofO {α : Type} : Option α → Mx α
  | some x => .ok x
  | none => .no

section
variable {X : Cx} {W : WX} {Γ : Ctx} {a b c e : Expr} {pos p p2 : Pos} {t t1 t2 : Ty} {r : Rt}

/-! ## parts in a row -/
theorem two_of {m1 : Mx t1.den} {m2 : Mx t2.den} {k : t1.den → t2.den → Mx r.den} {rR : R2}
    (hr : ∀ x y v w F H σ Q, Same F H → rl X.K X.mg t1 x [v] F → rl X.K X.mg t2 y [w] F → (post X.mg W σ (k x y) F H fun z => ∀ u F' H', Ext F H F' H' → rtr X.K X.mg r z u H F' H' → Q u H') → rR v w H Q) :
    ∀ σ H Q, tR X.mg X.K W Γ r (m1 >>= fun x => m2 >>= fun y => k x y) σ H Q → tOp rR (tR X.mg X.K W Γ (.d t1) m1) (tR X.mg X.K W Γ (.d t2) m2) σ H Q := by
  intro σ H Q ⟨F, s, d, p⟩
  refine ⟨F, s, d, p.bind.mono fun x px v F1 H1 e1 r1 => ⟨F1, e1.i, d.mono e1.f, post.ext (P' := _) e1 px.bind fun y py w F2 H2 e2 r2 => ?_⟩⟩
  refine hr x y v w F2 H2 σ Q e2.i (rl_mono e2.f t1 x _ r1) r2 ?_
  exact post.ext (e1.trans e2) py fun z pz u F3 H3 e3 r3 => pz u F3 H3 ((e1.trans e2).trans e3) (rtr_pre (e1.h.trans e2.h) r3)
theorem one_of {m1 : Mx t1.den} {k : t1.den → Mx r.den} {rR : V → Hp → VK → Prop}
    (hr : ∀ x v F H σ Q, Same F H → rl X.K X.mg t1 x [v] F → (post X.mg W σ (k x) F H fun z => ∀ u F' H', Ext F H F' H' → rtr X.K X.mg r z u H F' H' → Q u H') → rR v H Q) :
    ∀ σ H Q, tR X.mg X.K W Γ r (m1 >>= k) σ H Q → tUn rR (tR X.mg X.K W Γ (.d t1) m1) σ H Q := by
  intro σ H Q ⟨F, s, d, p⟩
  refine ⟨F, s, d, p.bind.mono fun x px v F1 H1 e1 r1 => ?_⟩
  exact hr x v F1 H1 σ Q e1.i r1 (post.ext e1 px fun z pz u F3 H3 e3 r3 => pz u F3 H3 (e1.trans e3) (rtr_pre e1.h r3))
theorem args_of {ts : Ty} {m1 : Mx ts.den} {k : ts.den → Mx r.den} {rR : List V → Hp → VK → Prop}
    (hr : ∀ x vs F H σ Q, Same F H → rl X.K X.mg ts x vs F → (post X.mg W σ (k x) F H fun z => ∀ u F' H', Ext F H F' H' → rtr X.K X.mg r z u H F' H' → Q u H') → rR vs H Q) :
    ∀ σ H Q, tR X.mg X.K W Γ r (m1 >>= k) σ H Q → tCB rR (tA X.mg X.K W Γ ts m1) σ H Q := by
  intro σ H Q ⟨F, s, d, p⟩
  refine ⟨F, s, d, p.bind.mono fun x px v F1 H1 e1 r1 => ?_⟩
  exact hr x v F1 H1 σ Q e1.i r1 (post.ext e1 px fun z pz u F3 H3 e3 r3 => pz u F3 H3 (e1.trans e3) (rtr_pre e1.h r3))

/-! ## arguments -/
theorem ea_nil : EA X W Γ [] .nl (.ok ()) := pa_imp pa_nil fun σ H Q ⟨F, s, d, p⟩ => p [] F H (Ext.refl s) rfl
theorem ea_cons {es : List Expr} {ts : Ty} {m : Mx t.den} {ms : Mx ts.den} (ha : EM X W Γ a t m) (hr : EA X W Γ es ts ms) (hs : starEach (a :: es) X.env = (false, eval a X.env) :: starEach es X.env := by rfl) :
    EA X W Γ (a :: es) (.pr t ts) (m >>= fun x => ms >>= fun y => .ok (x, y)) := pa_imp (pa_cons ha hr hs) fun σ H Q ⟨F, s, d, p⟩ => by
  refine ⟨F, s, d, p.bind.mono fun x px v F1 H1 e1 r1 => ⟨F1, e1.i, d.mono e1.f, post.ext e1 px.bind fun y py vs F2 H2 e2 r2 => ?_⟩⟩
  exact py (v :: vs) F2 H2 (e1.trans e2) ⟨v, vs, rfl, rl_mono e2.f t x _ r1, r2⟩
theorem ea_one {m : Mx t.den} (ha : EM X W Γ a t m) (hs : starEach [a] X.env = (false, eval a X.env) :: starEach [] X.env := by rfl) : EA X W Γ [a] t m := pa_imp (pa_cons ha pa_nil hs) fun σ H Q ⟨F, s, d, p⟩ =>
  ⟨F, s, d, p.mono fun x px v F1 H1 e1 r1 => px [v] F1 H1 e1 r1⟩

/-! ## names, constants -/
theorem e_c {v : V} {x : t.den} (h : PE X e (tC v)) (hv : ∀ F, rl X.K X.mg t x [v] F) : EM X W Γ e t (.ok x) := pe_imp h fun σ H Q ⟨F, s, d, p⟩ => p v F H (Ext.refl s) (hv F)
theorem e_int {i : Int} {j : Nat} : EM X W Γ (.Constant (.int i) j pos) .int (.ok i) := e_c pe_int fun _ => rfl
theorem e_str {i : Str} {j : Nat} : EM X W Γ (.Constant (.str i) j pos) .str (.ok i) := e_c pe_str fun _ => rfl
theorem e_bool {i : Bool} {j : Nat} : EM X W Γ (.Constant (.bool i) j pos) .bool (.ok i) := e_c pe_bl fun _ => rfl
theorem e_none {j : Nat} : EM X W Γ (.Constant .none j pos) .non (.ok ()) := e_c pe_non fun _ => rfl
theorem e_noneO {j : Nat} : EM X W Γ (.Constant .none j pos) (.opt t) (.ok none) := e_c pe_non fun _ => rfl
theorem e_var (i : Nat) {n : Str} {x : t.den} (hΓ : Γ[i]? = some (.d t x)) (hp : PE X (.Name n pos) (tVar i)) : EM X W Γ (.Name n pos) t (.ok x) := pe_imp hp fun σ H Q ⟨F, s, d, p⟩ => by
  obtain ⟨ov, e1, v, rfl, r⟩ := d i _ hΓ
  exact ⟨v, e1, p v F H (Ext.refl s) r⟩
/-- an owned thing, read -/
theorem e_own (i : Nat) {n : Str} {o : Ow} {x : o.ty.den} (hΓ : Γ[i]? = some (.o o x)) (hp : PE X (.Name n pos) (tVar i)) : EM X W Γ (.Name n pos) o.ty (.ok x) := pe_imp hp fun σ H Q ⟨F, s, d, p⟩ => by
  obtain ⟨ov, e1, v, rfl, r⟩ := d i _ hΓ
  exact ⟨v, e1, p v F H (Ext.refl s) r⟩
/-- a new owned thing, as data -/
theorem e_frz {o : Ow} {m : Mx o.ty.den} (h : EO X W Γ e o m) : EM X W Γ e o.ty m := pe_imp h fun σ H Q ⟨F, s, d, p⟩ => by
  refine ⟨F, s, d, p.mono fun x px v F' H' e1 r => ?_⟩
  obtain ⟨fp, r, nd, nw⟩ := r
  let fi : Nat → List Addr := fun j => if j = 0 then fp else []
  have fin : ∀ a, a ∈ fp → frozen F' H' fi a = H' a := fun a ha => frozen_in (i := 0) (by show a ∈ (if (0 : Nat) = 0 then fp else []); rw [if_pos rfl]; exact ha)
  have fout : ∀ a, a ∉ fp → frozen F' H' fi a = F' a := fun a ha => frozen_out fun j hj => by
    have hj : a ∈ (if j = 0 then fp else []) := hj
    by_cases z : j = 0
    · rw [if_pos z] at hj; exact ha hj
    · rw [if_neg z] at hj; cases hj
  have le : Same F' (frozen F' H' fi) := fun b u eb => by
    rw [fout b fun hb => by rw [(nw b hb).1] at eb; cases eb]; exact eb
  refine px v (frozen F' H' fi) H' ⟨e1.f.trans le, e1.h, fun b u eb => ?_, fun q hq hf => ?_⟩ (ol_rl le o x _ _ (fun a ha => fin a ha) r)
  · by_cases hb : b ∈ fp
    · rw [fin b hb] at eb; exact eb
    · rw [fout b hb] at eb; exact e1.i _ _ eb
  · by_cases hb : q ∈ fp
    · exact absurd (nw q hb).2 hq
    · rw [fout q hb]; exact e1.n q hq hf
/-- a value as an option -/
def Ty.some_ : Ty → Bool
  | .int => true
  | .bool => true
  | .str => true
  | .tup _ => true
  | .vtup _ => true
  | .hl _ => true
  | .list _ => true
  | .ins _ _ _ => true
  | _ => false
theorem rl_some {K : PySem.W.Frag} {mg : Str → Option Value} {F : Hp} {x : t.den} {vs : List V} (h : t.some_ = true) (r : rl K mg t x vs F) : vs ≠ [.non] := by
  cases t with
  | int => rw [show vs = _ from r]; exact fun z => nomatch z
  | bool => rw [show vs = _ from r]; exact fun z => nomatch z
  | str => rw [show vs = _ from r]; exact fun z => nomatch z
  | tup _ => obtain ⟨_, _, e, _⟩ := r; rw [e]; exact fun z => nomatch z
  | vtup _ => obtain ⟨_, _, e, _⟩ := r; rw [e]; exact fun z => nomatch z
  | hl _ => obtain ⟨_, _, e, _⟩ := r; rw [e]; exact fun z => nomatch z
  | list _ => obtain ⟨_, _, e, _⟩ := r; rw [e]; exact fun z => nomatch z
  | ins _ _ _ => obtain ⟨_, _, _, _, e, _⟩ := r; rw [e]; exact fun z => nomatch z
  | _ => cases h
theorem e_some {m : Mx t.den} (ht : t.some_ = true) (h : EM X W Γ e t m) : EM X W Γ e (.opt t) (m >>= fun x => .ok (some x)) := pe_imp h fun σ H Q ⟨F, s, d, p⟩ =>
  ⟨F, s, d, p.bind.mono fun x px v F' H' e1 r => px v F' H' e1 ⟨rl_some ht r, r⟩⟩

/-! ## operators -/
theorem e_bin {op : Operator} {m1 : Mx t1.den} {m2 : Mx t2.den} {g : t1.den → t2.den → Option r.den} {rR : R2} (ho : OpR X (binaryOp op) rR)
    (hr : ∀ x y z, g x y = some z → ∀ v w F H Q, Same F H → rl X.K X.mg t1 x [v] F → rl X.K X.mg t2 y [w] F → (∀ u F' H', Ext F H F' H' → rtr X.K X.mg r z u H F' H' → Q u H') → rR v w H Q)
    (ha : EM X W Γ a t1 m1) (hb : EM X W Γ b t2 m2) : ER X W Γ (.BinOp a op b pos) r (m1 >>= fun x => m2 >>= fun y => ofO (g x y)) :=
  pe_imp (pe_op ho ha hb) (two_of fun x y v w F H σ Q s r1 r2 p => by
    cases e : g x y with
    | none => rw [e] at p; exact p.elim
    | some z => rw [e] at p; exact hr x y z e v w F H Q s r1 r2 p)
theorem e_cmp {op : CmpOp} {m1 : Mx t1.den} {m2 : Mx t2.den} {g : t1.den → t2.den → Option r.den} {rR : R2} (ho : OpR X (compareOp op) rR) (hm : behindInMarks op b = false)
    (hr : ∀ x y z, g x y = some z → ∀ v w F H Q, Same F H → rl X.K X.mg t1 x [v] F → rl X.K X.mg t2 y [w] F → (∀ u F' H', Ext F H F' H' → rtr X.K X.mg r z u H F' H' → Q u H') → rR v w H Q)
    (ha : EM X W Γ a t1 m1) (hb : EM X W Γ b t2 m2) : ER X W Γ (.Compare a [op] [b] pos) r (m1 >>= fun x => m2 >>= fun y => ofO (g x y)) :=
  pe_imp (pe_cmpR ho ha hb hm) (two_of fun x y v w F H σ Q s r1 r2 p => by
    cases e : g x y with
    | none => rw [e] at p; exact p.elim
    | some z => rw [e] at p; exact hr x y z e v w F H Q s r1 r2 p)
theorem e_ix {m1 : Mx t1.den} {m2 : Mx t2.den} {g : t1.den → t2.den → Option r.den} {rR : R2} (ho : IxR X rR) (hs : PlainIx b)
    (hr : ∀ x y z, g x y = some z → ∀ v w F H Q, Same F H → rl X.K X.mg t1 x [v] F → rl X.K X.mg t2 y [w] F → (∀ u F' H', Ext F H F' H' → rtr X.K X.mg r z u H F' H' → Q u H') → rR v w H Q)
    (ha : EM X W Γ a t1 m1) (hb : EM X W Γ b t2 m2) : ER X W Γ (.Subscript a b pos) r (m1 >>= fun x => m2 >>= fun y => ofO (g x y)) :=
  pe_imp (pe_ix ho ha hb hs) (two_of fun x y v w F H σ Q s r1 r2 p => by
    cases e : g x y with
    | none => rw [e] at p; exact p.elim
    | some z => rw [e] at p; exact hr x y z e v w F H Q s r1 r2 p)
end
end Gm
set_option Elab.async false
set_option linter.all false
set_option maxRecDepth 100000
set_option maxHeartbeats 4000000
namespace Gm
open PySem PySem.Spec L2

/-! ## equality of data -/
def lbeq {α : Type} (f : α → α → Bool) : List α → List α → Bool
  | [], [] => true
  | x :: xs, y :: ys => f x y && lbeq f xs ys
  | _, _ => false
def Ty.beq : (t : Ty) → t.den → t.den → Bool
  | .int, x, y => @BEq.beq Int _ x y
  | .bool, x, y => @BEq.beq Bool _ x y
  | .str, x, y => @BEq.beq Str _ x y
  | .non, _, _ => true
  | .scr, _, _ => false
  | .opt t, x, y => match x, y with
    | none, none => true
    | some a, some b => t.beq a b
    | _, _ => false
  | .tup fs, x, y => fs.beq x y
  | .vtup t, x, y => lbeq t.beq x y
  | .hl fs, x, y => fs.beq x y
  | .list t, x, y => lbeq t.beq x y
  | .pr a b, x, y => a.beq x.1 y.1 && b.beq x.2 y.2
  | .nl, _, _ => true
  | .sum _ _, _, _ => false
  | .ins _ _ _, _, _ => false
def Ty.eqok : Ty → Bool
  | .int => true
  | .bool => true
  | .str => true
  | .non => true
  | .scr => false
  | .opt t => t.some_ && t.eqok
  | .tup fs => fs.eqok
  | .vtup t => t.eqok
  | .hl fs => fs.eqok
  | .list t => t.eqok
  | .pr a b => a.eqok && b.eqok
  | .nl => true
  | .sum _ _ => false
  | .ins _ _ _ => false
def Ty.depth : Ty → Nat
  | .opt t => t.depth
  | .tup fs => fs.depth + 1
  | .vtup t => t.depth + 1
  | .hl fs => fs.depth + 1
  | .list t => t.depth + 1
  | .pr a b => a.depth + b.depth
  | _ => 0
theorem lbeq_iff {α : Type} {f : α → α → Bool} (h : ∀ x y, f x y = true ↔ x = y) : ∀ xs ys : List α, lbeq f xs ys = true ↔ xs = ys
  | [], [] => by simp [lbeq]
  | x :: xs, y :: ys => by simp [lbeq, h, lbeq_iff h xs ys]
  | [], _ :: _ => by simp [lbeq]
  | _ :: _, [] => by simp [lbeq]
theorem beq_iff : ∀ (t : Ty), t.eqok = true → ∀ x y : t.den, t.beq x y = true ↔ x = y := by
  intro t
  induction t with
  | int => intro _ x y; exact beq_iff_eq
  | bool => intro _ x y; exact beq_iff_eq
  | str => intro _ x y; exact beq_iff_eq
  | non => intro _ x y; exact ⟨fun _ => rfl, fun _ => rfl⟩
  | opt t ih =>
    intro h x y
    have h' := (Bool.and_eq_true _ _).mp (show (t.some_ && t.eqok) = true from h)
    cases x with
    | none => cases y with
      | none => exact ⟨fun _ => rfl, fun _ => rfl⟩
      | some b => exact ⟨fun z => (nomatch z), fun z => (nomatch z)⟩
    | some a => cases y with
      | none => exact ⟨fun z => (nomatch z), fun z => (nomatch z)⟩
      | some b => exact (ih h'.2 a b).trans ⟨fun z => congrArg some z, fun z => Option.some.inj z⟩
  | tup fs ih => intro h x y; exact ih h x y
  | vtup t ih => intro h x y; exact lbeq_iff (ih h) x y
  | hl fs ih => intro h x y; exact ih h x y
  | list t ih => intro h x y; exact lbeq_iff (ih h) x y
  | pr a b iha ihb =>
    intro h x y
    have h' := (Bool.and_eq_true _ _).mp (show (a.eqok && b.eqok) = true from h)
    obtain ⟨x1, x2⟩ := x
    obtain ⟨y1, y2⟩ := y
    show (a.beq x1 y1 && b.beq x2 y2) = true ↔ _
    rw [Bool.and_eq_true, iha h'.1, ihb h'.2, Prod.mk.injEq]
  | nl => intro _ x y; exact ⟨fun _ => rfl, fun _ => rfl⟩
  | scr => intro h; cases h
  | sum a b => intro h; cases h
  | ins c ns fs => intro h; cases h
theorem beq_dec {t : Ty} (h : t.eqok = true) [d : DecidableEq t.den] (x y : t.den) : t.beq x y = decide (x = y) := by
  rw [Bool.eq_iff_iff, beq_iff t h, decide_eq_true_iff]

theorem Vals.one {v : V} {us : List Value} (r : Vals [v] us) : ∃ u, us = [u] ∧ RelV v u := by
  cases r with
  | cons a b => cases b; exact ⟨_, rfl, a⟩
theorem rl_one {K : PySem.W.Frag} {mg : Str → Option Value} {F : Hp} {t : Ty} {x : t.den} {vs : List V} (h : t.some_ = true) (r : rl K mg t x vs F) : ∃ v, vs = [v] := by
  cases t with
  | int => exact ⟨_, r⟩
  | bool => exact ⟨_, r⟩
  | str => exact ⟨_, r⟩
  | tup _ => obtain ⟨_, _, e, _⟩ := r; exact ⟨_, e⟩
  | vtup _ => obtain ⟨_, _, e, _⟩ := r; exact ⟨_, e⟩
  | hl _ => obtain ⟨_, _, e, _⟩ := r; exact ⟨_, e⟩
  | list _ => obtain ⟨_, _, e, _⟩ := r; exact ⟨_, e⟩
  | ins _ _ _ => obtain ⟨_, _, _, _, e, _⟩ := r; exact ⟨_, e⟩
  | _ => cases h

section
variable {X : Cx} {pins : List (Addr × Obj)} {σ : L2.St} {F H : Hp} {s : Shared} {mg : Str → Option Value}
theorem sqT_same {K : PySem.W.Frag} {F H : Hp} {a : Addr} {ws : List V} (h : Same F H) (q : SqT K F a ws) : SqT K H a ws := sqT_mono (fun b o z _ => h b o z) q
theorem all2.inj {α : Type} {R : α → V → Prop} (h : ∀ x y v, R x v → R y v → x = y) : ∀ {xs ys : List α} {vs : List V}, all2 R xs vs → all2 R ys vs → xs = ys
  | [], [], [], _, _ => rfl
  | _ :: _, _ :: _, _ :: _, ⟨a, b⟩, ⟨c, d⟩ => by rw [h _ _ _ a c, all2.inj h b d]
  | [], _, _ :: _, z, _ => z.elim
  | _ :: _, _, [], z, _ => z.elim
  | [], _ :: _, [], _, z => z.elim
  | _ :: _, [], _ :: _, _, z => z.elim
theorem rl_inj (I : Inv X pins σ H s) (hs : Same F H) : ∀ (t : Ty), t.eqok = true → ∀ (x y : t.den) (vs : List V), rl X.K mg t x vs F → rl X.K mg t y vs F → x = y := by
  intro t
  induction t with
  | int => intro _ x y vs p q; rw [show vs = _ from p] at q; exact V.int.inj (List.cons.inj q).1
  | bool => intro _ x y vs p q; rw [show vs = _ from p] at q; exact V.bl.inj (List.cons.inj q).1
  | str => intro _ x y vs p q; rw [show vs = _ from p] at q; exact V.str.inj (List.cons.inj q).1
  | non => intro _ x y vs p q; rfl
  | opt t ih =>
    intro h x y vs p q
    have h' := (Bool.and_eq_true _ _).mp (show (t.some_ && t.eqok) = true from h)
    cases x with
    | none => cases y with
      | none => rfl
      | some b => exact absurd p q.1
    | some a => cases y with
      | none => exact absurd q p.1
      | some b => exact congrArg some (ih h'.2 a b vs p.2 q.2)
  | tup fs ih =>
    intro h x y vs p q
    obtain ⟨a, ws, e, s1, r1⟩ := p
    obtain ⟨b, zs, e', s2, r2⟩ := q
    rw [e] at e'; cases e'
    cases I.tuple_inj (sqT_same hs s1) (sqT_same hs s2)
    exact ih h x y _ r1 r2
  | vtup t ih =>
    intro h x y vs p q
    obtain ⟨a, ws, e, s1, r1⟩ := p
    obtain ⟨b, zs, e', s2, r2⟩ := q
    rw [e] at e'; cases e'
    cases I.tuple_inj (sqT_same hs s1) (sqT_same hs s2)
    exact all2.inj (fun x y v => ih h x y [v]) r1 r2
  | hl fs ih =>
    intro h x y vs p q
    obtain ⟨a, ws, e, s1, r1⟩ := p
    obtain ⟨b, zs, e', s2, r2⟩ := q
    rw [e] at e'; cases e'
    cases I.list_inj (SqL.of (hs _ _ s1)) (SqL.of (hs _ _ s2))
    exact ih h x y _ r1 r2
  | list t ih =>
    intro h x y vs p q
    obtain ⟨a, ws, e, s1, r1⟩ := p
    obtain ⟨b, zs, e', s2, r2⟩ := q
    rw [e] at e'; cases e'
    cases I.list_inj (SqL.of (hs _ _ s1)) (SqL.of (hs _ _ s2))
    exact all2.inj (fun x y v => ih h x y [v]) r1 r2
  | pr a b iha ihb =>
    intro h x y vs p q
    have h' := (Bool.and_eq_true _ _).mp (show (a.eqok && b.eqok) = true from h)
    obtain ⟨v, r, e, p1, p2⟩ := p
    obtain ⟨w, r', e', q1, q2⟩ := q
    rw [e] at e'; cases e'
    exact Prod.ext (iha h'.1 _ _ _ p1 q1) (ihb h'.2 _ _ _ p2 q2)
  | nl => intro _ x y vs p q; rfl
  | scr => intro h; cases h
  | sum a b => intro h; cases h
  | ins c ns fs => intro h; cases h

/-- pointwise answers of == -/
def EqL (A : Around) (s : Shared) (us ws : List Value) (b : Bool) : Prop := ∃ e : Nat → Bool, us.length = ws.length ∧ (∀ j u w, us[j]? = some u → ws[j]? = some w → SeqAt.EqAt A s u w (e j)) ∧ b = (List.range us.length).all e
theorem EqL.single {A : Around} {u w : Value} {b : Bool} (h : SeqAt.EqAt A s u w b) : EqL A s [u] [w] b := by
  refine ⟨fun _ => b, rfl, fun j u' w' e1 e2 => ?_, by simp⟩
  cases j with
  | zero => simp at e1 e2; subst e1; subst e2; exact h
  | succ j => simp at e1
theorem range_all_succ (n : Nat) (e : Nat → Bool) : (List.range (n + 1)).all e = (e 0 && (List.range n).all fun j => e (j + 1)) := by
  rw [List.range_succ_eq_map, List.all_cons, List.all_map]; rfl
theorem EqL.cons {A : Around} {u w : Value} {us ws : List Value} {b c : Bool} (h : SeqAt.EqAt A s u w b) (t : EqL A s us ws c) : EqL A s (u :: us) (w :: ws) (b && c) := by
  obtain ⟨e, h1, h2, h3⟩ := t
  refine ⟨fun j => match j with | 0 => b | j + 1 => e j, congrArg (· + 1) h1, fun j u' w' e1 e2 => ?_, ?_⟩
  · cases j with
    | zero => simp at e1 e2; subst e1; subst e2; exact h
    | succ j => exact h2 j u' w' (by simpa using e1) (by simpa using e2)
  · rw [List.length_cons, range_all_succ, h3]
theorem EqL.one {A : Around} {u w : Value} {b : Bool} (h : EqL A s [u] [w] b) : SeqAt.EqAt A s u w b := by
  obtain ⟨e, h1, h2, h3⟩ := h
  have := h2 0 u w rfl rfl
  rw [h3]; simpa using this
theorem rc_lists {A : Around} {a b : Addr} {ws zs : List V} {c : Bool} (hu : A.units < cLine) (I : Inv X pins σ H s) (h1 : SqL X.K H a ws) (h2 : SqL X.K H b zs)
    (h : ws.length = zs.length → ∀ us us', Vals ws us → Vals zs us' → EqL A.in1 s us us' c) (hn : ws.length ≠ zs.length → c = false) : SeqAt.RcAt A s (.ref a) (.ref b) c := by
  obtain ⟨its, r1, p1, z1⟩ := I.list h1
  obtain ⟨its', r2, p2, z2⟩ := I.list h2
  by_cases hl : ws.length = zs.length
  · obtain ⟨e, e1, e2, e3⟩ := h hl its its' r1 r2
    rw [e3]
    have := SeqAt.RcAt.lists (e := e) p1.isList p2.isList (by simpa using e1) hu fun j h1 h2 => e2 j _ _ (by simp at h1; simp [h1]) (by simp at h2; simp [h2])
    simpa using this
  · rw [hn hl]
    refine SeqAt.RcAt.lists_lengths p1.isList p2.isList ?_ hu
    rw [bne_iff_ne]
    simp only [List.size_toArray]
    rw [← r1.length, ← r2.length]; exact hl
theorem rc_tuples {A : Around} {a b : Addr} {ws zs : List V} {c : Bool} (hu : A.units < cLine) (I : Inv X pins σ H s) (h1 : SqT X.K H a ws) (h2 : SqT X.K H b zs)
    (h : ws.length = zs.length → ∀ us us', Vals ws us → Vals zs us' → EqL A.in1 s us us' c) (hn : ws.length ≠ zs.length → c = false)
    (hall : ∀ us us', Vals ws us → Vals zs us' → ∃ e : Nat → Bool, ∀ j u w, us[j]? = some u → us'[j]? = some w → SeqAt.EqAt A.in1 s u w (e j)) : SeqAt.RcAt A s (.ref a) (.ref b) c := by
  obtain ⟨its, r1, p1, z1⟩ := I.tuple h1
  obtain ⟨its', r2, p2, z2⟩ := I.tuple h2
  by_cases hl : ws.length = zs.length
  · obtain ⟨e, e1, e2, e3⟩ := h hl its its' r1 r2
    have := SeqAt.RcAt.tuples (e := e) (show s.heap.IsTuple a its.toArray from p1) (show s.heap.IsTuple b its'.toArray from p2) hu fun j h1 h2 => e2 j _ _ (by simp at h1; simp [h1]) (by simp at h2; simp [h2])
    rw [e3]
    simpa [e1] using this
  · obtain ⟨e, he⟩ := hall its its' r1 r2
    have := SeqAt.RcAt.tuples (e := e) (show s.heap.IsTuple a its.toArray from p1) (show s.heap.IsTuple b its'.toArray from p2) hu fun j h1 h2 => he j _ _ (by simp at h1; simp [h1]) (by simp at h2; simp [h2])
    rw [hn hl]
    have hl' : its.length ≠ its'.length := by rw [← r1.length, ← r2.length]; exact hl
    simp only [List.size_toArray] at this
    rw [show (its.length == its'.length) = false from by simp [hl'], Bool.and_false] at this
    exact this
theorem none_eq {A : Around} {u : Value} {w : V} (hu : A.units < cLine) (I : Inv X pins σ H s) (hs : Same F H) {t : Ty} {x : t.den} (h1 : t.some_ = true) (h2 : t.eqok = true) (r : rl X.K mg t x [w] F) (ru : RelV w u) :
    SeqAt.EqAt A s .none u false ∧ SeqAt.EqAt A s u .none false := by
  cases t with
  | int => cases (List.cons.inj (show [w] = _ from r)).1; obtain ⟨t, rfl⟩ := ru; exact ⟨.none_int _ _, .int_none _ _⟩
  | bool => cases (List.cons.inj (show [w] = _ from r)).1; cases ru; exact ⟨.none_bool _, .bool_none _⟩
  | str => cases (List.cons.inj (show [w] = _ from r)).1; obtain ⟨t, rfl⟩ := ru; exact ⟨.none_str _ _, .str_none _ _⟩
  | tup fs =>
    obtain ⟨a, ws, e, s1, _⟩ := r
    cases (List.cons.inj e).1; cases ru
    obtain ⟨its, _, p, _⟩ := I.tuple (sqT_same hs s1)
    exact ⟨.none_tuple (show s.heap.IsTuple a its.toArray from p) hu, .tuple_none (show s.heap.IsTuple a its.toArray from p) hu⟩
  | vtup t =>
    obtain ⟨a, ws, e, s1, _⟩ := r
    cases (List.cons.inj e).1; cases ru
    obtain ⟨its, _, p, _⟩ := I.tuple (sqT_same hs s1)
    exact ⟨.none_tuple (show s.heap.IsTuple a its.toArray from p) hu, .tuple_none (show s.heap.IsTuple a its.toArray from p) hu⟩
  | hl fs =>
    obtain ⟨a, ws, e, s1, _⟩ := r
    cases (List.cons.inj e).1; cases ru
    obtain ⟨its, _, p, _⟩ := I.list (SqL.of (hs _ _ s1))
    exact ⟨.none_list p.isList hu, .list_none p.isList hu⟩
  | list t =>
    obtain ⟨a, ws, e, s1, _⟩ := r
    cases (List.cons.inj e).1; cases ru
    obtain ⟨its, _, p, _⟩ := I.list (SqL.of (hs _ _ s1))
    exact ⟨.none_list p.isList hu, .list_none p.isList hu⟩
  | ins _ _ _ => cases h2
  | _ => cases h1
theorem eqL_all {α : Type} {A : Around} {f : α → α → Bool} {R : α → V → Prop} (h : ∀ x y v w u u', R x v → R y w → RelV v u → RelV w u' → SeqAt.EqAt A s u u' (f x y)) :
    ∀ {xs ys : List α} {vs ws : List V} {us us' : List Value}, all2 R xs vs → all2 R ys ws → Vals vs us → Vals ws us' → vs.length = ws.length → EqL A s us us' (lbeq f xs ys)
  | [], [], [], [], _, _, _, _, .nil, .nil, _ => ⟨fun _ => true, rfl, fun j u w e => by simp at e, rfl⟩
  | _ :: _, _ :: _, _ :: _, _ :: _, _, _, ⟨a, b⟩, ⟨c, d⟩, .cons p q, .cons p' q', hl => (EqL.single (h _ _ _ _ _ _ a c p p')).one |> fun z => EqL.cons z (eqL_all h b d q q' (Nat.succ.inj hl))
  | [], _ :: _, [], _ :: _, _, _, _, _, _, _, hl => by cases hl
  | _ :: _, [], _ :: _, [], _, _, _, _, _, _, hl => by cases hl
  | [], _, _ :: _, _, _, _, z, _, _, _, _ => z.elim
  | _ :: _, _, [], _, _, _, z, _, _, _, _ => z.elim
  | _, [], _, _ :: _, _, _, _, z, _, _, _ => z.elim
  | _, _ :: _, _, [], _, _, _, z, _, _, _ => z.elim
theorem eqL_pts {α : Type} {A : Around} {f : α → α → Bool} {R : α → V → Prop} (h : ∀ x y v w u u', R x v → R y w → RelV v u → RelV w u' → SeqAt.EqAt A s u u' (f x y)) :
    ∀ {xs ys : List α} {vs ws : List V} {us us' : List Value}, all2 R xs vs → all2 R ys ws → Vals vs us → Vals ws us' → ∃ e : Nat → Bool, ∀ j u w, us[j]? = some u → us'[j]? = some w → SeqAt.EqAt A s u w (e j)
  | [], _, [], _, _, _, _, _, .nil, _ => ⟨fun _ => true, fun j u w e => by simp at e⟩
  | _, [], _, [], _, _, _, _, _, .nil => ⟨fun _ => true, fun j u w _ e => by simp at e⟩
  | x :: _, y :: _, _ :: _, _ :: _, _, _, ⟨a, b⟩, ⟨c, d⟩, .cons p q, .cons p' q' => by
    obtain ⟨e, he⟩ := eqL_pts h b d q q'
    refine ⟨fun j => match j with | 0 => f x y | j + 1 => e j, fun j u w e1 e2 => ?_⟩
    cases j with
    | zero => simp at e1 e2; subst e1; subst e2; exact h _ _ _ _ _ _ a c p p'
    | succ j => exact he j u w (by simpa using e1) (by simpa using e2)
  | [], _, _ :: _, _, _, _, z, _, _, _ => z.elim
  | _ :: _, _, [], _, _, _, z, _, _, _ => z.elim
  | _, [], _, _ :: _, _, _, _, z, _, _ => z.elim
  | _, _ :: _, _, [], _, _, _, z, _, _ => z.elim
theorem lbeq_len {α : Type} {f : α → α → Bool} : ∀ {xs ys : List α}, xs.length ≠ ys.length → lbeq f xs ys = false
  | [], [], h => absurd rfl h
  | [], _ :: _, _ => rfl
  | _ :: _, [], _ => rfl
  | x :: xs, y :: ys, h => by
    show (f x y && lbeq f xs ys) = false
    rw [lbeq_len fun z => h (congrArg (· + 1) z), Bool.and_false]
theorem eq_of_rc {A : Around} {a b : Addr} {c : Bool} (I : Inv X pins σ H s) (h : SeqAt.RcAt A s (.ref a) (.ref b) c) (hc : a = b → c = true) : SeqAt.EqAt A s (.ref a) (.ref b) c := by
  by_cases e : a = b
  · rw [hc e]; subst e; exact .same _
  · exact .of_refs e h
theorem eqL_ty (I : Inv X pins σ H s) (hs : Same F H) : ∀ (t : Ty), t.eqok = true → ∀ (A : Around), A.units + t.depth < cLine → ∀ (x y : t.den) (vs ws : List V), rl X.K mg t x vs F → rl X.K mg t y ws F →
    ∀ us us', Vals vs us → Vals ws us' → EqL A s us us' (t.beq x y) := by
  intro t
  induction t with
  | int =>
    intro _ A _ x y vs ws p q us us' r r'
    cases (show vs = _ from p); cases (show ws = _ from q)
    obtain ⟨u, rfl, t, rfl⟩ := Vals.one r
    obtain ⟨u', rfl, t', rfl⟩ := Vals.one r'
    exact EqL.single (.int_int _ _ _ _)
  | bool =>
    intro _ A _ x y vs ws p q us us' r r'
    cases (show vs = _ from p); cases (show ws = _ from q)
    obtain ⟨u, rfl, h1⟩ := Vals.one r
    obtain ⟨u', rfl, h2⟩ := Vals.one r'
    cases h1; cases h2
    exact EqL.single (.bool_bool _ _)
  | str =>
    intro _ A _ x y vs ws p q us us' r r'
    cases (show vs = _ from p); cases (show ws = _ from q)
    obtain ⟨u, rfl, t, rfl⟩ := Vals.one r
    obtain ⟨u', rfl, t', rfl⟩ := Vals.one r'
    exact EqL.single (.str_str _ _ _ _)
  | non =>
    intro _ A _ x y vs ws p q us us' r r'
    cases (show vs = _ from p); cases (show ws = _ from q)
    obtain ⟨u, rfl, h1⟩ := Vals.one r
    obtain ⟨u', rfl, h2⟩ := Vals.one r'
    cases h1; cases h2
    exact EqL.single (.same _)
  | opt t ih =>
    intro h A hu x y vs ws p q us us' r r'
    have h' := (Bool.and_eq_true _ _).mp (show (t.some_ && t.eqok) = true from h)
    have hu' : A.units < cLine := Nat.lt_of_le_of_lt (Nat.le_add_right _ _) hu
    cases x with
    | none =>
      cases (show vs = _ from p)
      obtain ⟨u, rfl, h1⟩ := Vals.one r
      cases h1
      cases y with
      | none =>
        cases (show ws = _ from q)
        obtain ⟨u', rfl, h2⟩ := Vals.one r'
        cases h2
        exact EqL.single (.same _)
      | some b =>
        obtain ⟨w, rfl⟩ := rl_one h'.1 q.2
        obtain ⟨u', rfl, h2⟩ := Vals.one r'
        exact EqL.single (none_eq hu' I hs h'.1 h'.2 q.2 h2).1
    | some a =>
      cases y with
      | none =>
        cases (show ws = _ from q)
        obtain ⟨u', rfl, h2⟩ := Vals.one r'
        cases h2
        obtain ⟨w, rfl⟩ := rl_one h'.1 p.2
        obtain ⟨u, rfl, h1⟩ := Vals.one r
        exact EqL.single (none_eq hu' I hs h'.1 h'.2 p.2 h1).2
      | some b => exact ih h'.2 A hu a b vs ws p.2 q.2 us us' r r'
  | tup fs ih =>
    intro h A hu x y vs ws p q us us' r r'
    have hp := p
    have hq := q
    obtain ⟨a, zs, rfl, s1, r1⟩ := p
    obtain ⟨b, zs', rfl, s2, r2⟩ := q
    obtain ⟨u, rfl, h1⟩ := Vals.one r
    obtain ⟨u', rfl, h2⟩ := Vals.one r'
    cases h1; cases h2
    have hu' : A.units + fs.depth + 1 < cLine := hu
    have go : ∀ us us', Vals zs us → Vals zs' us' → EqL A.in1 s us us' (fs.beq x y) := fun us us' v v' => ih h A.in1 (by show A.units + 1 + fs.depth < cLine; omega) x y zs zs' r1 r2 us us' v v'
    refine EqL.single (eq_of_rc I (rc_tuples (by omega) I (sqT_same hs s1) (sqT_same hs s2) (fun _ => go) (fun hn => ?_) fun us us' v v' => ?_) fun e => ?_)
    · obtain ⟨its, v1, _, _⟩ := I.tuple (sqT_same hs s1)
      obtain ⟨its', v2, _, _⟩ := I.tuple (sqT_same hs s2)
      obtain ⟨_, e1, _⟩ := go its its' v1 v2
      exact absurd (by rw [v1.length, v2.length]; exact e1) hn
    · obtain ⟨e, _, e2, _⟩ := go us us' v v'
      exact ⟨e, e2⟩
    · subst e
      exact (beq_iff _ h x y).mpr (rl_inj I hs (.tup fs) h x y _ hp hq)
  | vtup t ih =>
    intro h A hu x y vs ws p q us us' r r'
    have hp := p
    have hq := q
    obtain ⟨a, zs, rfl, s1, r1⟩ := p
    obtain ⟨b, zs', rfl, s2, r2⟩ := q
    obtain ⟨u, rfl, h1⟩ := Vals.one r
    obtain ⟨u', rfl, h2⟩ := Vals.one r'
    cases h1; cases h2
    have hu' : A.units + t.depth + 1 < cLine := hu
    have pt : ∀ x y v w u u', rl X.K mg t x [v] F → rl X.K mg t y [w] F → RelV v u → RelV w u' → SeqAt.EqAt A.in1 s u u' (t.beq x y) := fun x y v w u u' a b c d =>
      (ih h A.in1 (by show A.units + 1 + t.depth < cLine; omega) x y [v] [w] a b [u] [u'] (.cons c .nil) (.cons d .nil)).one
    refine EqL.single (eq_of_rc I (rc_tuples (by omega) I (sqT_same hs s1) (sqT_same hs s2) (fun hl us us' v v' => eqL_all (f := t.beq) pt r1 r2 v v' hl) (fun hn => lbeq_len (by rw [r1.len, r2.len]; exact hn)) fun us us' v v' => eqL_pts (f := t.beq) pt r1 r2 v v') fun e => ?_)
    subst e
    exact (beq_iff (.vtup t) h x y).mpr (rl_inj I hs (.vtup t) h x y _ hp hq)
  | hl fs ih =>
    intro h A hu x y vs ws p q us us' r r'
    have hp := p
    have hq := q
    obtain ⟨a, zs, rfl, s1, r1⟩ := p
    obtain ⟨b, zs', rfl, s2, r2⟩ := q
    obtain ⟨u, rfl, h1⟩ := Vals.one r
    obtain ⟨u', rfl, h2⟩ := Vals.one r'
    cases h1; cases h2
    have hu' : A.units + fs.depth + 1 < cLine := hu
    have go : ∀ us us', Vals zs us → Vals zs' us' → EqL A.in1 s us us' (fs.beq x y) := fun us us' v v' => ih h A.in1 (by show A.units + 1 + fs.depth < cLine; omega) x y zs zs' r1 r2 us us' v v'
    refine EqL.single (eq_of_rc I (rc_lists (by omega) I (SqL.of (hs _ _ s1)) (SqL.of (hs _ _ s2)) (fun _ => go) (fun hn => ?_)) fun e => ?_)
    · obtain ⟨its, v1, _, _⟩ := I.list (SqL.of (hs _ _ s1))
      obtain ⟨its', v2, _, _⟩ := I.list (SqL.of (hs _ _ s2))
      obtain ⟨_, e1, _⟩ := go its its' v1 v2
      exact absurd (by rw [v1.length, v2.length]; exact e1) hn
    · subst e
      exact (beq_iff _ h x y).mpr (rl_inj I hs (.hl fs) h x y _ hp hq)
  | list t ih =>
    intro h A hu x y vs ws p q us us' r r'
    have hp := p
    have hq := q
    obtain ⟨a, zs, rfl, s1, r1⟩ := p
    obtain ⟨b, zs', rfl, s2, r2⟩ := q
    obtain ⟨u, rfl, h1⟩ := Vals.one r
    obtain ⟨u', rfl, h2⟩ := Vals.one r'
    cases h1; cases h2
    have hu' : A.units + t.depth + 1 < cLine := hu
    have pt : ∀ x y v w u u', rl X.K mg t x [v] F → rl X.K mg t y [w] F → RelV v u → RelV w u' → SeqAt.EqAt A.in1 s u u' (t.beq x y) := fun x y v w u u' a b c d =>
      (ih h A.in1 (by show A.units + 1 + t.depth < cLine; omega) x y [v] [w] a b [u] [u'] (.cons c .nil) (.cons d .nil)).one
    refine EqL.single (eq_of_rc I (rc_lists (by omega) I (SqL.of (hs _ _ s1)) (SqL.of (hs _ _ s2)) (fun hl us us' v v' => eqL_all (f := t.beq) pt r1 r2 v v' hl) (fun hn => lbeq_len (by rw [r1.len, r2.len]; exact hn))) fun e => ?_)
    subst e
    exact (beq_iff (.list t) h x y).mpr (rl_inj I hs (.list t) h x y _ hp hq)
  | pr a b iha ihb =>
    intro h A hu x y vs ws p q us us' r r'
    have h' := (Bool.and_eq_true _ _).mp (show (a.eqok && b.eqok) = true from h)
    have hu' : A.units + (a.depth + b.depth) < cLine := hu
    obtain ⟨v, r1, rfl, p1, p2⟩ := p
    obtain ⟨w, r2, rfl, q1, q2⟩ := q
    cases r with
    | cons c d =>
      cases r' with
      | cons c' d' =>
        exact EqL.cons (iha h'.1 A (by omega) x.1 y.1 [v] [w] p1 q1 _ _ (.cons c .nil) (.cons c' .nil)).one (ihb h'.2 A (by omega) x.2 y.2 r1 r2 p2 q2 _ _ d d')
  | nl =>
    intro _ A _ x y vs ws p q us us' r r'
    cases (show vs = _ from p); cases (show ws = _ from q)
    cases r; cases r'
    exact ⟨fun _ => true, rfl, fun j u w e => by simp at e, rfl⟩
  | scr => intro h; cases h
  | sum a b => intro h; cases h
  | ins c ns fs => intro h; cases h
theorem rc_ty (I : Inv X pins σ H s) (hs : Same F H) {t : Ty} (h : t.eqok = true) {A : Around} (hu : A.units + t.depth < cLine) {x y : t.den} {a b : Addr} (p : rl X.K mg t x [.ref a] F) (q : rl X.K mg t y [.ref b] F) : SeqAt.RcAt A s (.ref a) (.ref b) (t.beq x y) := by
  cases t with
  | int => cases (show [V.ref a] = _ from p)
  | bool => cases (show [V.ref a] = _ from p)
  | str => cases (show [V.ref a] = _ from p)
  | non => cases (show [V.ref a] = _ from p)
  | nl => cases (show [V.ref a] = _ from p)
  | scr => cases h
  | sum _ _ => cases h
  | ins _ _ _ => cases h
  | opt t =>
    have h' := (Bool.and_eq_true _ _).mp (show (t.some_ && t.eqok) = true from h)
    cases x with
    | none => cases (show [V.ref a] = _ from p)
    | some x =>
      cases y with
      | none => cases (show [V.ref b] = _ from q)
      | some y => exact rc_ty I hs (t := t) h'.2 hu p.2 q.2
  | pr t u =>
    obtain ⟨v, r, e1, p1, p2⟩ := p
    obtain ⟨w, r', e2, q1, q2⟩ := q
    cases e1; cases e2
    have h' := (Bool.and_eq_true _ _).mp (show (t.eqok && u.eqok) = true from h)
    have hu' : A.units + (t.depth + u.depth) < cLine := hu
    have c1 := rc_ty I hs (t := t) h'.1 (A := A) (by omega) p1 q1
    obtain ⟨e, _, _, e3⟩ := eqL_ty I hs u h'.2 A (by omega) x.2 y.2 [] [] p2 q2 [] [] .nil .nil
    have e4 : u.beq x.2 y.2 = true := e3
    show SeqAt.RcAt A s (.ref a) (.ref b) (t.beq x.1 y.1 && u.beq x.2 y.2)
    rw [e4, Bool.and_true]; exact c1
  | tup fs =>
    obtain ⟨a', zs, e1, s1, r1⟩ := p
    obtain ⟨b', zs', e2, s2, r2⟩ := q
    cases e1; cases e2
    have hu' : A.units + fs.depth + 1 < cLine := hu
    have go : ∀ us us', Vals zs us → Vals zs' us' → EqL A.in1 s us us' (fs.beq x y) := fun us us' v v' => eqL_ty I hs fs h A.in1 (by show A.units + 1 + fs.depth < cLine; omega) x y zs zs' r1 r2 us us' v v'
    refine rc_tuples (by omega) I (sqT_same hs s1) (sqT_same hs s2) (fun _ => go) (fun hn => ?_) fun us us' v v' => ?_
    · obtain ⟨its, v1, _, _⟩ := I.tuple (sqT_same hs s1)
      obtain ⟨its', v2, _, _⟩ := I.tuple (sqT_same hs s2)
      obtain ⟨_, e1, _⟩ := go its its' v1 v2
      exact absurd (by rw [v1.length, v2.length]; exact e1) hn
    · obtain ⟨e, _, e2, _⟩ := go us us' v v'
      exact ⟨e, e2⟩
  | vtup t =>
    obtain ⟨a', zs, e1, s1, r1⟩ := p
    obtain ⟨b', zs', e2, s2, r2⟩ := q
    cases e1; cases e2
    have hu' : A.units + t.depth + 1 < cLine := hu
    have pt : ∀ x y v w u u', rl X.K mg t x [v] F → rl X.K mg t y [w] F → RelV v u → RelV w u' → SeqAt.EqAt A.in1 s u u' (t.beq x y) := fun x y v w u u' a b c d =>
      (eqL_ty I hs t h A.in1 (by show A.units + 1 + t.depth < cLine; omega) x y [v] [w] a b [u] [u'] (.cons c .nil) (.cons d .nil)).one
    exact rc_tuples (by omega) I (sqT_same hs s1) (sqT_same hs s2) (fun hl us us' v v' => eqL_all (f := t.beq) pt r1 r2 v v' hl) (fun hn => lbeq_len (by rw [r1.len, r2.len]; exact hn)) fun us us' v v' => eqL_pts (f := t.beq) pt r1 r2 v v'
  | hl fs =>
    obtain ⟨a', zs, e1, s1, r1⟩ := p
    obtain ⟨b', zs', e2, s2, r2⟩ := q
    cases e1; cases e2
    have hu' : A.units + fs.depth + 1 < cLine := hu
    have go : ∀ us us', Vals zs us → Vals zs' us' → EqL A.in1 s us us' (fs.beq x y) := fun us us' v v' => eqL_ty I hs fs h A.in1 (by show A.units + 1 + fs.depth < cLine; omega) x y zs zs' r1 r2 us us' v v'
    refine rc_lists (by omega) I (SqL.of (hs _ _ s1)) (SqL.of (hs _ _ s2)) (fun _ => go) (fun hn => ?_)
    obtain ⟨its, v1, _, _⟩ := I.list (SqL.of (hs _ _ s1))
    obtain ⟨its', v2, _, _⟩ := I.list (SqL.of (hs _ _ s2))
    obtain ⟨_, e1, _⟩ := go its its' v1 v2
    exact absurd (by rw [v1.length, v2.length]; exact e1) hn
  | list t =>
    obtain ⟨a', zs, e1, s1, r1⟩ := p
    obtain ⟨b', zs', e2, s2, r2⟩ := q
    cases e1; cases e2
    have hu' : A.units + t.depth + 1 < cLine := hu
    have pt : ∀ x y v w u u', rl X.K mg t x [v] F → rl X.K mg t y [w] F → RelV v u → RelV w u' → SeqAt.EqAt A.in1 s u u' (t.beq x y) := fun x y v w u u' a b c d =>
      (eqL_ty I hs t h A.in1 (by show A.units + 1 + t.depth < cLine; omega) x y [v] [w] a b [u] [u'] (.cons c .nil) (.cons d .nil)).one
    exact rc_lists (by omega) I (SqL.of (hs _ _ s1)) (SqL.of (hs _ _ s2)) (fun hl us us' v v' => eqL_all (f := t.beq) pt r1 r2 v v' hl) (fun hn => lbeq_len (by rw [r1.len, r2.len]; exact hn))
end
end Gm
set_option Elab.async false
set_option linter.all false
set_option maxRecDepth 100000
set_option maxHeartbeats 4000000
namespace Gm
open PySem PySem.Spec L2
section
variable {X : Cx} {pins : List (Addr × Obj)} {σ : L2.St} {F H : Hp} {s : Shared} {mg : Str → Option Value}
theorem rcn_lists {A : Around} {a b : Addr} {ws zs : List V} {c : Bool} (hu : A.units < cLine) (I : Inv X pins σ H s) (h1 : SqL X.K H a ws) (h2 : SqL X.K H b zs)
    (h : ws.length = zs.length → ∀ us us', Vals ws us → Vals zs us' → EqL A.in1 s us us' c) (hn : ws.length ≠ zs.length → c = false) : SeqAt.RcNeAt A s (.ref a) (.ref b) (!c) := by
  obtain ⟨its, r1, p1, z1⟩ := I.list h1
  obtain ⟨its', r2, p2, z2⟩ := I.list h2
  by_cases hl : ws.length = zs.length
  · obtain ⟨e, e1, e2, e3⟩ := h hl its its' r1 r2
    rw [e3]
    have := SeqAt.RcNeAt.lists (e := e) p1.isList p2.isList (by simpa using e1) hu fun j h1 h2 => e2 j _ _ (by simp at h1; simp [h1]) (by simp at h2; simp [h2])
    simpa using this
  · rw [hn hl]
    refine SeqAt.RcNeAt.lists_lengths p1.isList p2.isList ?_ hu
    rw [bne_iff_ne]
    simp only [List.size_toArray]
    rw [← r1.length, ← r2.length]; exact hl
theorem rcn_tuples {A : Around} {a b : Addr} {ws zs : List V} {c : Bool} (hu : A.units < cLine) (I : Inv X pins σ H s) (h1 : SqT X.K H a ws) (h2 : SqT X.K H b zs)
    (h : ws.length = zs.length → ∀ us us', Vals ws us → Vals zs us' → EqL A.in1 s us us' c) (hn : ws.length ≠ zs.length → c = false)
    (hall : ∀ us us', Vals ws us → Vals zs us' → ∃ e : Nat → Bool, ∀ j u w, us[j]? = some u → us'[j]? = some w → SeqAt.EqAt A.in1 s u w (e j)) : SeqAt.RcNeAt A s (.ref a) (.ref b) (!c) := by
  obtain ⟨its, r1, p1, z1⟩ := I.tuple h1
  obtain ⟨its', r2, p2, z2⟩ := I.tuple h2
  by_cases hl : ws.length = zs.length
  · obtain ⟨e, e1, e2, e3⟩ := h hl its its' r1 r2
    have := SeqAt.RcNeAt.tuples (e := e) (show s.heap.IsTuple a its.toArray from p1) (show s.heap.IsTuple b its'.toArray from p2) hu fun j h1 h2 => e2 j _ _ (by simp at h1; simp [h1]) (by simp at h2; simp [h2])
    rw [e3]
    simpa [e1] using this
  · obtain ⟨e, he⟩ := hall its its' r1 r2
    have := SeqAt.RcNeAt.tuples (e := e) (show s.heap.IsTuple a its.toArray from p1) (show s.heap.IsTuple b its'.toArray from p2) hu fun j h1 h2 => he j _ _ (by simp at h1; simp [h1]) (by simp at h2; simp [h2])
    rw [hn hl]
    have hl' : its.length ≠ its'.length := by rw [← r1.length, ← r2.length]; exact hl
    simp only [List.size_toArray] at this
    rw [show (its.length == its'.length) = false from by simp [hl'], Bool.and_false] at this
    exact this
theorem rcn_ty (I : Inv X pins σ H s) (hs : Same F H) {t : Ty} (h : t.eqok = true) {A : Around} (hu : A.units + t.depth < cLine) {x y : t.den} {a b : Addr} (p : rl X.K mg t x [.ref a] F) (q : rl X.K mg t y [.ref b] F) : SeqAt.RcNeAt A s (.ref a) (.ref b) (!t.beq x y) := by
  cases t with
  | int => cases (show [V.ref a] = _ from p)
  | bool => cases (show [V.ref a] = _ from p)
  | str => cases (show [V.ref a] = _ from p)
  | non => cases (show [V.ref a] = _ from p)
  | nl => cases (show [V.ref a] = _ from p)
  | scr => cases h
  | sum _ _ => cases h
  | ins _ _ _ => cases h
  | opt t =>
    have h' := (Bool.and_eq_true _ _).mp (show (t.some_ && t.eqok) = true from h)
    cases x with
    | none => cases (show [V.ref a] = _ from p)
    | some x =>
      cases y with
      | none => cases (show [V.ref b] = _ from q)
      | some y => exact rcn_ty I hs (t := t) h'.2 hu p.2 q.2
  | pr t u =>
    obtain ⟨v, r, e1, p1, p2⟩ := p
    obtain ⟨w, r', e2, q1, q2⟩ := q
    cases e1; cases e2
    have h' := (Bool.and_eq_true _ _).mp (show (t.eqok && u.eqok) = true from h)
    have hu' : A.units + (t.depth + u.depth) < cLine := hu
    have c1 := rcn_ty I hs (t := t) h'.1 (A := A) (by omega) p1 q1
    obtain ⟨e, _, _, e3⟩ := eqL_ty I hs u h'.2 A (by omega) x.2 y.2 [] [] p2 q2 [] [] .nil .nil
    have e4 : u.beq x.2 y.2 = true := e3
    show SeqAt.RcNeAt A s (.ref a) (.ref b) (!(t.beq x.1 y.1 && u.beq x.2 y.2))
    rw [e4, Bool.and_true]; exact c1
  | tup fs =>
    obtain ⟨a', zs, e1, s1, r1⟩ := p
    obtain ⟨b', zs', e2, s2, r2⟩ := q
    cases e1; cases e2
    have hu' : A.units + fs.depth + 1 < cLine := hu
    have go : ∀ us us', Vals zs us → Vals zs' us' → EqL A.in1 s us us' (fs.beq x y) := fun us us' v v' => eqL_ty I hs fs h A.in1 (by show A.units + 1 + fs.depth < cLine; omega) x y zs zs' r1 r2 us us' v v'
    refine rcn_tuples (by omega) I (sqT_same hs s1) (sqT_same hs s2) (fun _ => go) (fun hn => ?_) fun us us' v v' => ?_
    · obtain ⟨its, v1, _, _⟩ := I.tuple (sqT_same hs s1)
      obtain ⟨its', v2, _, _⟩ := I.tuple (sqT_same hs s2)
      obtain ⟨_, e1, _⟩ := go its its' v1 v2
      exact absurd (by rw [v1.length, v2.length]; exact e1) hn
    · obtain ⟨e, _, e2, _⟩ := go us us' v v'
      exact ⟨e, e2⟩
  | vtup t =>
    obtain ⟨a', zs, e1, s1, r1⟩ := p
    obtain ⟨b', zs', e2, s2, r2⟩ := q
    cases e1; cases e2
    have hu' : A.units + t.depth + 1 < cLine := hu
    have pt : ∀ x y v w u u', rl X.K mg t x [v] F → rl X.K mg t y [w] F → RelV v u → RelV w u' → SeqAt.EqAt A.in1 s u u' (t.beq x y) := fun x y v w u u' a b c d =>
      (eqL_ty I hs t h A.in1 (by show A.units + 1 + t.depth < cLine; omega) x y [v] [w] a b [u] [u'] (.cons c .nil) (.cons d .nil)).one
    exact rcn_tuples (by omega) I (sqT_same hs s1) (sqT_same hs s2) (fun hl us us' v v' => eqL_all (f := t.beq) pt r1 r2 v v' hl) (fun hn => lbeq_len (by rw [r1.len, r2.len]; exact hn)) fun us us' v v' => eqL_pts (f := t.beq) pt r1 r2 v v'
  | hl fs =>
    obtain ⟨a', zs, e1, s1, r1⟩ := p
    obtain ⟨b', zs', e2, s2, r2⟩ := q
    cases e1; cases e2
    have hu' : A.units + fs.depth + 1 < cLine := hu
    have go : ∀ us us', Vals zs us → Vals zs' us' → EqL A.in1 s us us' (fs.beq x y) := fun us us' v v' => eqL_ty I hs fs h A.in1 (by show A.units + 1 + fs.depth < cLine; omega) x y zs zs' r1 r2 us us' v v'
    refine rcn_lists (by omega) I (SqL.of (hs _ _ s1)) (SqL.of (hs _ _ s2)) (fun _ => go) (fun hn => ?_)
    obtain ⟨its, v1, _, _⟩ := I.list (SqL.of (hs _ _ s1))
    obtain ⟨its', v2, _, _⟩ := I.list (SqL.of (hs _ _ s2))
    obtain ⟨_, e1, _⟩ := go its its' v1 v2
    exact absurd (by rw [v1.length, v2.length]; exact e1) hn
  | list t =>
    obtain ⟨a', zs, e1, s1, r1⟩ := p
    obtain ⟨b', zs', e2, s2, r2⟩ := q
    cases e1; cases e2
    have hu' : A.units + t.depth + 1 < cLine := hu
    have pt : ∀ x y v w u u', rl X.K mg t x [v] F → rl X.K mg t y [w] F → RelV v u → RelV w u' → SeqAt.EqAt A.in1 s u u' (t.beq x y) := fun x y v w u u' a b c d =>
      (eqL_ty I hs t h A.in1 (by show A.units + 1 + t.depth < cLine; omega) x y [v] [w] a b [u] [u'] (.cons c .nil) (.cons d .nil)).one
    exact rcn_lists (by omega) I (SqL.of (hs _ _ s1)) (SqL.of (hs _ _ s2)) (fun hl us us' v v' => eqL_all (f := t.beq) pt r1 r2 v v' hl) (fun hn => lbeq_len (by rw [r1.len, r2.len]; exact hn))
end

/-! ## comparisons -/
/-- == of things of one code; depth bounded -/
def Ty.top : Ty → Bool
  | .int => true
  | .bool => true
  | .str => true
  | .non => true
  | .tup fs => fs.eqok
  | .vtup t => t.eqok
  | .hl fs => fs.eqok
  | .list t => t.eqok
  | .opt .int => true
  | .opt .bool => true
  | .opt .str => true
  | _ => false
theorem top_eqok : ∀ {t : Ty}, t.top = true → t.eqok = true
  | .int, _ => rfl
  | .bool, _ => rfl
  | .str, _ => rfl
  | .non, _ => rfl
  | .tup _, h => h
  | .vtup _, h => h
  | .hl _, h => h
  | .list _, h => h
  | .opt .int, _ => rfl
  | .opt .bool, _ => rfl
  | .opt .str, _ => rfl
def rEqT (X : Cx) : R2 := fun v w H Q => ∃ F t x y, Same F H ∧ Ty.top t = true ∧ t.depth ≤ 60 ∧ rl X.K X.mg t x [v] F ∧ rl X.K X.mg t y [w] F ∧ Q (.bl (t.beq x y)) H
def rNeT (X : Cx) : R2 := fun v w H Q => ∃ F t x y, Same F H ∧ Ty.top t = true ∧ t.depth ≤ 60 ∧ rl X.K X.mg t x [v] F ∧ rl X.K X.mg t y [w] F ∧ Q (.bl (!t.beq x y)) H
/-- a scalar, or at an address -/
theorem top_kind {K : PySem.W.Frag} {mg : Str → Option Value} {F : Hp} {t : Ty} (h : t.top = true) : (∀ (x : t.den) v, rl K mg t x [v] F → ∃ a, v = .ref a) ∨
    ∀ (x y : t.den) v w, rl K mg t x [v] F → rl K mg t y [w] F → scal v w = true ∧ t.beq x y = decide (v = w) := by
  cases t with
  | int => exact .inr fun x y v w p q => by cases (List.cons.inj (show [v] = _ from p)).1; cases (List.cons.inj (show [w] = _ from q)).1; exact ⟨rfl, dec_int.symm⟩
  | bool => exact .inr fun x y v w p q => by cases (List.cons.inj (show [v] = _ from p)).1; cases (List.cons.inj (show [w] = _ from q)).1; exact ⟨rfl, dec_bl.symm⟩
  | str => exact .inr fun x y v w p q => by cases (List.cons.inj (show [v] = _ from p)).1; cases (List.cons.inj (show [w] = _ from q)).1; exact ⟨rfl, dec_str.symm⟩
  | non => exact .inr fun x y v w p q => by cases (List.cons.inj (show [v] = _ from p)).1; cases (List.cons.inj (show [w] = _ from q)).1; exact ⟨rfl, by simp [Ty.beq]⟩
  | tup fs => exact .inl fun x v p => by obtain ⟨a, _, e, _⟩ := p; exact ⟨a, (List.cons.inj e).1⟩
  | vtup fs => exact .inl fun x v p => by obtain ⟨a, _, e, _⟩ := p; exact ⟨a, (List.cons.inj e).1⟩
  | hl fs => exact .inl fun x v p => by obtain ⟨a, _, e, _⟩ := p; exact ⟨a, (List.cons.inj e).1⟩
  | list fs => exact .inl fun x v p => by obtain ⟨a, _, e, _⟩ := p; exact ⟨a, (List.cons.inj e).1⟩
  | opt t =>
    cases t with
    | int =>
      refine .inr fun x y v w p q => ?_
      cases x with
      | none => cases y with
        | none => cases (List.cons.inj (show [v] = _ from p)).1; cases (List.cons.inj (show [w] = _ from q)).1; exact ⟨rfl, by simp [Ty.beq]⟩
        | some y => cases (List.cons.inj (show [v] = _ from p)).1; cases (List.cons.inj (show [w] = _ from q.2)).1; exact ⟨rfl, by simp [Ty.beq]⟩
      | some x => cases y with
        | none => cases (List.cons.inj (show [v] = _ from p.2)).1; cases (List.cons.inj (show [w] = _ from q)).1; exact ⟨rfl, by simp [Ty.beq]⟩
        | some y => cases (List.cons.inj (show [v] = _ from p.2)).1; cases (List.cons.inj (show [w] = _ from q.2)).1; exact ⟨rfl, dec_int.symm⟩
    | bool =>
      refine .inr fun x y v w p q => ?_
      cases x with
      | none => cases y with
        | none => cases (List.cons.inj (show [v] = _ from p)).1; cases (List.cons.inj (show [w] = _ from q)).1; exact ⟨rfl, by simp [Ty.beq]⟩
        | some y => cases (List.cons.inj (show [v] = _ from p)).1; cases (List.cons.inj (show [w] = _ from q.2)).1; exact ⟨rfl, by simp [Ty.beq]⟩
      | some x => cases y with
        | none => cases (List.cons.inj (show [v] = _ from p.2)).1; cases (List.cons.inj (show [w] = _ from q)).1; exact ⟨rfl, by simp [Ty.beq]⟩
        | some y => cases (List.cons.inj (show [v] = _ from p.2)).1; cases (List.cons.inj (show [w] = _ from q.2)).1; exact ⟨rfl, dec_bl.symm⟩
    | str =>
      refine .inr fun x y v w p q => ?_
      cases x with
      | none => cases y with
        | none => cases (List.cons.inj (show [v] = _ from p)).1; cases (List.cons.inj (show [w] = _ from q)).1; exact ⟨rfl, by simp [Ty.beq]⟩
        | some y => cases (List.cons.inj (show [v] = _ from p)).1; cases (List.cons.inj (show [w] = _ from q.2)).1; exact ⟨rfl, by simp [Ty.beq]⟩
      | some x => cases y with
        | none => cases (List.cons.inj (show [v] = _ from p.2)).1; cases (List.cons.inj (show [w] = _ from q)).1; exact ⟨rfl, by simp [Ty.beq]⟩
        | some y => cases (List.cons.inj (show [v] = _ from p.2)).1; cases (List.cons.inj (show [w] = _ from q.2)).1; exact ⟨rfl, dec_str.symm⟩
    | _ => cases h
  | _ => cases h
section
variable {X : Cx} {W : WX} {Γ : Ctx} {a b c e : Expr} {pos p p2 : Pos} {t t1 t2 : Ty} {r : Rt}
theorem op_eqT (hu : X.A.units + 64 < cLine) : OpR X (compareOp .Eq) (rEqT X) := by
  intro pins s σ H v w u u' Q I rv rw' h
  obtain ⟨F, t, x, y, hs, ht, hd, p, q, hq⟩ := h
  rcases top_kind (K := X.K) (mg := X.mg) (F := F) ht with k | k
  · obtain ⟨a, rfl⟩ := k x v p
    obtain ⟨b, rfl⟩ := k y w q
    cases rv; cases rw'
    exact rc_ty I hs (top_eqok ht) (by omega) p q X.prog X.w X.xe _ ⟨.bl _, H, I, rfl, hq⟩
  · obtain ⟨k1, k2⟩ := k x y v w p q
    exact op_eq pins s σ H v w u u' Q I rv rw' ⟨k1, by rw [← k2]; exact hq⟩
theorem op_neT (hu : X.A.units + 64 < cLine) : OpR X (compareOp .NotEq) (rNeT X) := by
  intro pins s σ H v w u u' Q I rv rw' h
  obtain ⟨F, t, x, y, hs, ht, hd, p, q, hq⟩ := h
  rcases top_kind (K := X.K) (mg := X.mg) (F := F) ht with k | k
  · obtain ⟨a, rfl⟩ := k x v p
    obtain ⟨b, rfl⟩ := k y w q
    cases rv; cases rw'
    exact rcn_ty I hs (top_eqok ht) (by omega) p q X.prog X.w X.xe _ ⟨.bl _, H, I, rfl, hq⟩
  · obtain ⟨k1, k2⟩ := k x y v w p q
    exact op_ne pins s σ H v w u u' Q I rv rw' ⟨k1, by rw [← k2]; exact hq⟩
theorem pc_op {op : CmpOp} {ta tb : TE} {rR : R2} (ho : OpR X (compareOp op) rR) (ha : PE X a ta) (hb : PE X b tb) : PC X op a b (tOp rR ta tb) :=
  ⟨fun pins s σ H Q I h => bin (R := fun x y H2 => rR x y H2 Q) ha hb I h fun v u s2 x y H2 I2 rx ry q => ho pins s2 σ H2 x y v u Q I2 rx ry q⟩
theorem pc_imp {op : CmpOp} {t t' : TE} (h : PC X op a b t) (i : ∀ σ H Q, t' σ H Q → t σ H Q) : PC X op a b t' := ⟨fun pins s σ H Q I q => h.run pins s σ H Q I (i σ H Q q)⟩
/-- a comparison -/
abbrev EC (X : Cx) (W : WX) (Γ : Ctx) (op : CmpOp) (a b : Expr) (m : Mx Bool) : Prop := PC X op a b (tR X.mg X.K W Γ (.d .bool) m)
theorem e_c2 {op : CmpOp} {m : Mx Bool} (h : EC X W Γ op a b m) (hm : behindInMarks op b = false := by first | exact nomark _ | rfl) : EM X W Γ (.Compare a [op] [b] pos) .bool m := pe_cmp h hm
theorem t_c2 {op : CmpOp} {m : Mx Bool} (h : EC X W Γ op a b m) (hm : behindInMarks op b = false := by first | exact nomark _ | rfl) : ET X W Γ (.Compare a [op] [b] pos) m := pt_imp (pt_cmp h hm) fun σ H Q ⟨F, s, d, p⟩ =>
  ⟨F, s, d, p.mono fun x px v F1 H1 e1 r1 => by cases (List.cons.inj (show [v] = _ from r1)).1; exact ⟨x, rfl, px F1 H1 e1⟩⟩
theorem c_op {op : CmpOp} {m1 : Mx t1.den} {m2 : Mx t2.den} {g : t1.den → t2.den → Option Bool} {rR : R2} (ho : OpR X (compareOp op) rR)
    (hr : ∀ x y z, g x y = some z → ∀ v w F H Q, Same F H → rl X.K X.mg t1 x [v] F → rl X.K X.mg t2 y [w] F → Q (.bl z) H → rR v w H Q)
    (ha : EM X W Γ a t1 m1) (hb : EM X W Γ b t2 m2) : EC X W Γ op a b (m1 >>= fun x => m2 >>= fun y => ofO (g x y)) :=
  pc_imp (pc_op ho ha hb) (two_of (r := .d .bool) fun x y v w F H σ Q s r1 r2 p => by
    cases e : g x y with
    | none => rw [e] at p; exact p.elim
    | some z => rw [e] at p; exact hr x y z e v w F H Q s r1 r2 (p _ F H (Ext.refl s) rfl))
theorem c_eq {m1 m2 : Mx t.den} [d : DecidableEq t.den] (hu : X.A.units + 64 < cLine) (ha : EM X W Γ a t m1) (hb : EM X W Γ b t m2) (ht : t.top = true := by rfl) (hd : t.depth ≤ 60 := by decide) :
    EC X W Γ .Eq a b (m1 >>= fun x => m2 >>= fun y => .ok (decide (x = y))) :=
  c_op (g := fun x y => some (decide (x = y))) (op_eqT hu) (fun x y z e v w F H Q s r1 r2 k => by
    cases e
    exact ⟨F, t, x, y, s, ht, hd, r1, r2, by rw [beq_dec (top_eqok ht)]; exact k⟩) ha hb
theorem c_ne {m1 m2 : Mx t.den} [d : DecidableEq t.den] (hu : X.A.units + 64 < cLine) (ha : EM X W Γ a t m1) (hb : EM X W Γ b t m2) (ht : t.top = true := by rfl) (hd : t.depth ≤ 60 := by decide) :
    EC X W Γ .NotEq a b (m1 >>= fun x => m2 >>= fun y => .ok (!decide (x = y))) :=
  c_op (g := fun x y => some (!decide (x = y))) (op_neT hu) (fun x y z e v w F H Q s r1 r2 k => by
    cases e
    exact ⟨F, t, x, y, s, ht, hd, r1, r2, by rw [beq_dec (top_eqok ht)]; exact k⟩) ha hb
end
end Gm
set_option Elab.async false
set_option linter.all false
set_option maxRecDepth 100000
set_option maxHeartbeats 4000000
namespace Gm
open PySem PySem.Spec L2

section
variable {X : Cx} {W : WX} {Γ : Ctx} {a b c e : Expr} {pos p p2 : Pos} {t t1 t2 : Ty} {r : Rt} {pins : List (Addr × Obj)} {σ : L2.St} {F H : Hp} {s : Shared}

/-! ## whole numbers -/
abbrev K2 (g : Int → Int → Int) : Int → Int → Option Int := fun x y => some (g x y)
theorem r0 {g : Int → Int → V} {t : Ty} {f : Int → Int → t.den} (hg : ∀ x y F, rl X.K X.mg t (f x y) [g x y] F) : ∀ (x y : Int) z, some (f x y) = some z → ∀ v w F H Q, Same F H → rl X.K X.mg .int x [v] F → rl X.K X.mg .int y [w] F →
    (∀ u F' H', Ext F H F' H' → rtr X.K X.mg (.d t) z u H F' H' → Q u H') → rI0 g v w H Q := fun x y z e v w F H Q s r1 r2 k => by
  cases e
  cases (List.cons.inj (show [v] = _ from r1)).1
  cases (List.cons.inj (show [w] = _ from r2)).1
  exact ⟨x, y, rfl, rfl, k _ F H (Ext.refl s) (hg x y F)⟩
theorem rC {C : Int → Int → Prop} [d : ∀ x y, Decidable (C x y)] {g : Int → Int → V} {t : Ty} {f : Int → Int → t.den} (hg : ∀ x y F, rl X.K X.mg t (f x y) [g x y] F) : ∀ (x y : Int) z, (if C x y then some (f x y) else none) = some z → ∀ v w F H Q, Same F H → rl X.K X.mg .int x [v] F → rl X.K X.mg .int y [w] F →
    (∀ u F' H', Ext F H F' H' → rtr X.K X.mg (.d t) z u H F' H' → Q u H') → rI C g v w H Q := fun x y z e v w F H Q s r1 r2 k => by
  by_cases h : C x y
  · rw [if_pos h] at e
    cases e
    cases (List.cons.inj (show [v] = _ from r1)).1
    cases (List.cons.inj (show [w] = _ from r2)).1
    exact ⟨x, y, rfl, rfl, h, k _ F H (Ext.refl s) (hg x y F)⟩
  · rw [if_neg h] at e; cases e
instance (x y : Int) : Decidable (CMul x y) := by unfold CMul; infer_instance
instance (x y : Int) : Decidable (CDiv x y) := by unfold CDiv; infer_instance
instance (x y : Int) : Decidable (CPow x y) := by unfold CPow; infer_instance
def mulO (x y : Int) : Option Int := if CMul x y then some (x * y) else none
def modO (x y : Int) : Option Int := if 0 < y then some (x % y) else none
def divO (x y : Int) : Option Int := if CDiv x y then some (x / y) else none
def powO (x y : Int) : Option Int := if CPow x y then some (x ^ y.toNat) else none
variable {m1 m2 : Mx Int}
theorem e_add (ha : EM X W Γ a .int m1) (hb : EM X W Γ b .int m2) : EM X W Γ (.BinOp a .Add b pos) .int (m1 >>= fun x => m2 >>= fun y => .ok (x + y)) := e_bin (t1 := .int) (t2 := .int) (r := .d .int) (g := fun x y => some (x + y)) op_add (r0 (t := .int) (f := fun x y => x + y) fun _ _ _ => rfl) ha hb
theorem e_sub (ha : EM X W Γ a .int m1) (hb : EM X W Γ b .int m2) : EM X W Γ (.BinOp a .Sub b pos) .int (m1 >>= fun x => m2 >>= fun y => .ok (x - y)) := e_bin (t1 := .int) (t2 := .int) (r := .d .int) (g := fun x y => some (x - y)) op_sub (r0 (t := .int) (f := fun x y => x - y) fun _ _ _ => rfl) ha hb
theorem e_mul (ha : EM X W Γ a .int m1) (hb : EM X W Γ b .int m2) : EM X W Γ (.BinOp a .Mult b pos) .int (m1 >>= fun x => m2 >>= fun y => ofO (mulO x y)) := e_bin (t1 := .int) (t2 := .int) (r := .d .int) (g := mulO) op_mul (rC (t := .int) (f := fun x y => x * y) fun _ _ _ => rfl) ha hb
theorem e_mod (ha : EM X W Γ a .int m1) (hb : EM X W Γ b .int m2) : EM X W Γ (.BinOp a .Mod b pos) .int (m1 >>= fun x => m2 >>= fun y => ofO (modO x y)) := e_bin (t1 := .int) (t2 := .int) (r := .d .int) (g := modO) op_mod (rC (t := .int) (C := fun _ y => 0 < y) (f := fun x y => x % y) fun _ _ _ => rfl) ha hb
theorem e_div (ha : EM X W Γ a .int m1) (hb : EM X W Γ b .int m2) : EM X W Γ (.BinOp a .FloorDiv b pos) .int (m1 >>= fun x => m2 >>= fun y => ofO (divO x y)) := e_bin (t1 := .int) (t2 := .int) (r := .d .int) (g := divO) op_fdiv (rC (t := .int) (f := fun x y => x / y) fun _ _ _ => rfl) ha hb
theorem e_pow (ha : EM X W Γ a .int m1) (hb : EM X W Γ b .int m2) : EM X W Γ (.BinOp a .Pow b pos) .int (m1 >>= fun x => m2 >>= fun y => ofO (powO x y)) := e_bin (t1 := .int) (t2 := .int) (r := .d .int) (g := powO) op_pow (rC (t := .int) (f := fun x y => x ^ y.toNat) fun _ _ _ => rfl) ha hb
theorem c0 {p : Int → Int → Bool} : ∀ (x y : Int) z, some (p x y) = some z → ∀ v w F H Q, Same F H → rl X.K X.mg .int x [v] F → rl X.K X.mg .int y [w] F → Q (.bl z) H → rI0 (fun i j => .bl (p i j)) v w H Q := fun x y z e v w F H Q s r1 r2 k => by
  cases e
  cases (List.cons.inj (show [v] = _ from r1)).1
  cases (List.cons.inj (show [w] = _ from r2)).1
  exact ⟨x, y, rfl, rfl, k⟩
theorem c_lt (ha : EM X W Γ a .int m1) (hb : EM X W Γ b .int m2) : EC X W Γ .Lt a b (m1 >>= fun x => m2 >>= fun y => .ok (decide (x < y))) := c_op (t1 := .int) (t2 := .int) (g := fun x y => some (decide (x < y))) op_lt (c0 (p := fun x y => decide (x < y))) ha hb
theorem c_le (ha : EM X W Γ a .int m1) (hb : EM X W Γ b .int m2) : EC X W Γ .LtE a b (m1 >>= fun x => m2 >>= fun y => .ok (decide (x ≤ y))) := c_op (t1 := .int) (t2 := .int) (g := fun x y => some (decide (x ≤ y))) op_le (c0 (p := fun x y => decide (x ≤ y))) ha hb
theorem c_gt (ha : EM X W Γ a .int m1) (hb : EM X W Γ b .int m2) : EC X W Γ .Gt a b (m1 >>= fun x => m2 >>= fun y => .ok (decide (y < x))) := c_op (t1 := .int) (t2 := .int) (g := fun x y => some (decide (y < x))) op_gt (c0 (p := fun x y => decide (y < x))) ha hb
theorem c_ge (ha : EM X W Γ a .int m1) (hb : EM X W Γ b .int m2) : EC X W Γ .GtE a b (m1 >>= fun x => m2 >>= fun y => .ok (decide (y ≤ x))) := c_op (t1 := .int) (t2 := .int) (g := fun x y => some (decide (y ≤ x))) op_ge (c0 (p := fun x y => decide (y ≤ x))) ha hb
theorem e_neg (ha : EM X W Γ a .int m1) : EM X W Γ (.UnaryOp .USub a pos) .int (m1 >>= fun x => .ok (-x)) := pe_imp (pe_un un_neg ha) (one_of (t1 := .int) (r := .d .int) (k := fun x => .ok (-x)) fun x v F H σ Q s r1 k => by
  cases (List.cons.inj (show [v] = _ from r1)).1
  exact ⟨x, rfl, k _ F H (Ext.refl s) rfl⟩)
/-! ## texts -/
def catO (x y : Str) : Option Str := if x.length + y.length ≤ sizeLine then some (x ++ y) else none
theorem e_cat {m1 m2 : Mx Str} (ha : EM X W Γ a .str m1) (hb : EM X W Γ b .str m2) : EM X W Γ (.BinOp a .Add b pos) .str (m1 >>= fun x => m2 >>= fun y => ofO (catO x y)) := e_bin (t1 := .str) (t2 := .str) (r := .d .str) (g := catO) op_add_str (fun x y z e v w F H Q s r1 r2 k => by
  unfold catO at e
  by_cases h : x.length + y.length ≤ sizeLine
  · rw [if_pos h] at e
    cases e
    cases (List.cons.inj (show [v] = _ from r1)).1
    cases (List.cons.inj (show [w] = _ from r2)).1
    exact ⟨x, y, rfl, rfl, h, k _ F H (Ext.refl s) rfl⟩
  · rw [if_neg h] at e; cases e) ha hb
/-! ## None -/
theorem rl_isnone {K : PySem.W.Frag} {mg : Str → Option Value} {x : Option t.den} {v : V} (r : rl K mg (.opt t) x [v] F) : decide (v = .non) = x.isNone := by
  cases x with
  | none => cases (List.cons.inj (show [v] = _ from r)).1; rfl
  | some y => exact decide_eq_false fun z => r.1 (by rw [z])
theorem c_isN {m : Mx (Option t.den)} {j : Nat} (ha : EM X W Γ a (.opt t) m) : EC X W Γ .Is a (.Constant .none j p) (m >>= fun x => .ok x.isNone) := pc_imp (pc_isN ha) fun σ H Q ⟨F, s, d, p⟩ =>
  ⟨F, s, d, p.bind.mono fun x px v F1 H1 e1 r1 => by show Q (.bl (decide (v = .non))) H1; rw [rl_isnone r1]; exact px _ F1 H1 e1 rfl⟩
theorem c_notN {m : Mx (Option t.den)} {j : Nat} (ha : EM X W Γ a (.opt t) m) : EC X W Γ .IsNot a (.Constant .none j p) (m >>= fun x => .ok x.isSome) := pc_imp (pc_notN ha) fun σ H Q ⟨F, s, d, p⟩ =>
  ⟨F, s, d, p.bind.mono fun x px v F1 H1 e1 r1 => by show Q (.bl (!decide (v = .non))) H1; rw [rl_isnone r1, show (!x.isNone) = x.isSome by cases x <;> rfl]; exact px _ F1 H1 e1 rfl⟩
/-! ## not, and, or as values -/
theorem e_not {m : Mx Bool} (ha : EM X W Γ a .bool m) : EM X W Γ (.UnaryOp .Not a pos) .bool (m >>= fun x => .ok (!x)) := pe_imp (pe_not ha) fun σ H Q ⟨F, s, d, p⟩ =>
  ⟨F, s, d, p.bind.mono fun x px v F1 H1 e1 r1 => by cases (List.cons.inj (show [v] = _ from r1)).1; exact ⟨x, rfl, px _ F1 H1 e1 rfl⟩⟩
theorem e_b1 {m : Mx Bool} {op : BoolOp} (ha : EM X W Γ a .bool m) : EM X W Γ (.BoolOp op [a] pos) .bool m := pe_one ha
theorem e_and {m1 m2 : Mx Bool} {rest : List Expr} (ha : EM X W Γ a .bool m1) (hb : EM X W Γ (.BoolOp .And (b :: rest) pos) .bool m2) : EM X W Γ (.BoolOp .And (a :: b :: rest) pos) .bool (m1 >>= fun x => if x then m2 else .ok false) :=
  pe_imp (pe_and ha hb) fun σ H Q ⟨F, s, d, p⟩ => ⟨F, s, d, p.bind.mono fun x px v F1 H1 e1 r1 => by
    cases (List.cons.inj (show [v] = _ from r1)).1
    refine ⟨x, rfl, ?_⟩
    cases x with
    | true => exact ⟨F1, e1.i, d.mono e1.f, post.ext e1 px fun y py w F2 H2 e2 r2 => py w F2 H2 (e1.trans e2) (rtr_pre (r := .d .bool) e1.h r2)⟩
    | false => exact px _ F1 H1 e1 rfl⟩
theorem e_or {m1 m2 : Mx Bool} {rest : List Expr} (ha : EM X W Γ a .bool m1) (hb : EM X W Γ (.BoolOp .Or (b :: rest) pos) .bool m2) : EM X W Γ (.BoolOp .Or (a :: b :: rest) pos) .bool (m1 >>= fun x => if x then .ok true else m2) :=
  pe_imp (pe_or ha hb) fun σ H Q ⟨F, s, d, p⟩ => ⟨F, s, d, p.bind.mono fun x px v F1 H1 e1 r1 => by
    cases (List.cons.inj (show [v] = _ from r1)).1
    refine ⟨x, rfl, ?_⟩
    cases x with
    | false => exact ⟨F1, e1.i, d.mono e1.f, post.ext e1 px fun y py w F2 H2 e2 r2 => py w F2 H2 (e1.trans e2) (rtr_pre (r := .d .bool) e1.h r2)⟩
    | true => exact px _ F1 H1 e1 rfl⟩
/-! ## tests -/
theorem t_of {m : Mx Bool} (ha : EM X W Γ a .bool m) (he : ∀ whole, isTrue a X.env whole = (do let v ← whole; standAt a.pos; holding [v] (truthy v)) := by intro _; rfl) : ET X W Γ a m := pt_imp (pt_val ha he) fun σ H Q ⟨F, s, d, p⟩ =>
  ⟨F, s, d, p.mono fun x px v F1 H1 e1 r1 => by cases (List.cons.inj (show [v] = _ from r1)).1; exact ⟨x, rfl, px F1 H1 e1⟩⟩
theorem t_not {m : Mx Bool} (ha : ET X W Γ a m) : ET X W Γ (.UnaryOp .Not a pos) (m >>= fun x => .ok (!x)) := pt_imp (pt_not ha) fun σ H Q ⟨F, s, d, p⟩ =>
  ⟨F, s, d, p.bind.mono fun x px F1 H1 e1 => px F1 H1 e1⟩
abbrev EW (X : Cx) (W : WX) (Γ : Ctx) (e : Expr) (m : Mx Bool) : Prop := PW X e (tT X.mg X.K W Γ m)
theorem pw_imp {e : Expr} {t t' : TT} (h : PW X e t) (i : ∀ σ H Q, t' σ H Q → t σ H Q) : PW X e t' := ⟨fun wh pins s σ H Q I q => h.run wh pins s σ H Q I (i σ H Q q)⟩
theorem t_w {m : Mx Bool} (h : EW X W Γ a m) : ET X W Γ a m := PW.pt h
theorem w_and1 {m : Mx Bool} (ha : ET X W Γ a m) : EW X W Γ (.BoolOp .And [a] pos) m := pw_and1 ha
theorem w_or1 {m : Mx Bool} (ha : ET X W Γ a m) : EW X W Γ (.BoolOp .Or [a] pos) m := pw_or1 ha
theorem w_and {m1 m2 : Mx Bool} {rest : List Expr} (ha : ET X W Γ a m1) (hb : EW X W Γ (.BoolOp .And (b :: rest) pos) m2) : EW X W Γ (.BoolOp .And (a :: b :: rest) pos) (m1 >>= fun x => if x then m2 else .ok false) :=
  pw_imp (pw_and ha hb) fun σ H Q ⟨F, s, d, p⟩ => ⟨F, s, d, p.bind.mono fun x px F1 H1 e1 => by
    cases x with
    | true => exact ⟨F1, e1.i, d.mono e1.f, post.ext e1 px fun y py F2 H2 e2 => py F2 H2 (e1.trans e2)⟩
    | false => exact px F1 H1 e1⟩
theorem w_or {m1 m2 : Mx Bool} {rest : List Expr} (ha : ET X W Γ a m1) (hb : EW X W Γ (.BoolOp .Or (b :: rest) pos) m2) : EW X W Γ (.BoolOp .Or (a :: b :: rest) pos) (m1 >>= fun x => if x then .ok true else m2) :=
  pw_imp (pw_or ha hb) fun σ H Q ⟨F, s, d, p⟩ => ⟨F, s, d, p.bind.mono fun x px F1 H1 e1 => by
    cases x with
    | false => exact ⟨F1, e1.i, d.mono e1.f, post.ext e1 px fun y py F2 H2 e2 => py F2 H2 (e1.trans e2)⟩
    | true => exact px F1 H1 e1⟩
/-- a if t else b -/
theorem e_if {c : Expr} {mc : Mx Bool} {m1 m2 : Mx r.den} (hc : ET X W Γ c mc) (ha : ER X W Γ a r m1) (hb : ER X W Γ b r m2) : ER X W Γ (.IfExp c a b pos) r (mc >>= fun x => if x then m1 else m2) :=
  pe_imp (pe_ifExp hc ha hb) fun σ H Q ⟨F, s, d, p⟩ => ⟨F, s, d, p.bind.mono fun x px F1 H1 e1 => by
    cases x with
    | true => exact ⟨F1, e1.i, d.mono e1.f, post.ext e1 px fun y py w F2 H2 e2 r2 => py w F2 H2 (e1.trans e2) (rtr_pre e1.h r2)⟩
    | false => exact ⟨F1, e1.i, d.mono e1.f, post.ext e1 px fun y py w F2 H2 e2 r2 => py w F2 H2 (e1.trans e2) (rtr_pre e1.h r2)⟩⟩
/-! ## subscripts, slices -/
theorem all2_atI {α : Type} {R : α → V → Prop} {xs : List α} {vs : List V} {i : Int} {x : α} (h : all2 R xs vs) (e : atI xs i = some x) : ∃ v, atI vs i = some v ∧ R x v := by
  unfold atI at e ⊢
  rw [h.len] at e
  cases k : ixN vs.length i with
  | none => rw [k] at e; cases e
  | some j =>
    rw [k] at e
    obtain ⟨v, h1, h2⟩ := h.get (show xs[j]? = some x from e)
    exact ⟨v, h1, h2⟩
theorem e_ixL {m1 : Mx (List t.den)} {m2 : Mx Int} (ha : EM X W Γ a (.list t) m1) (hb : EM X W Γ b .int m2) (hs : PlainIx b := by intro _ _; rfl) : EM X W Γ (.Subscript a b pos) t (m1 >>= fun x => m2 >>= fun y => ofO (atI x y)) :=
  e_ix (t1 := .list t) (t2 := .int) (r := .d t) (g := fun x y => atI x y) ix_list hs (fun x y z e v w F H Q s r1 r2 k => by
    obtain ⟨p, ws, e1, sq, r⟩ := r1
    cases (List.cons.inj e1).1
    cases (List.cons.inj (show [w] = _ from r2)).1
    obtain ⟨u, h1, h2⟩ := all2_atI r e
    exact ⟨p, ws, y, u, rfl, rfl, SqL.of (s _ _ sq), h1, k u F H (Ext.refl s) h2⟩) ha hb
theorem e_ixT {m1 : Mx (List t.den)} {m2 : Mx Int} (ha : EM X W Γ a (.vtup t) m1) (hb : EM X W Γ b .int m2) (hs : PlainIx b := by intro _ _; rfl) : EM X W Γ (.Subscript a b pos) t (m1 >>= fun x => m2 >>= fun y => ofO (atI x y)) :=
  e_ix (t1 := .vtup t) (t2 := .int) (r := .d t) (g := fun x y => atI x y) ix_tup hs (fun x y z e v w F H Q s r1 r2 k => by
    obtain ⟨p, ws, e1, sq, r⟩ := r1
    cases (List.cons.inj e1).1
    cases (List.cons.inj (show [w] = _ from r2)).1
    obtain ⟨u, h1, h2⟩ := all2_atI r e
    exact ⟨p, ws, y, u, rfl, rfl, sqT_same s sq, h1, k u F H (Ext.refl s) h2⟩) ha hb
/-- a text's sign -/
def atS (x : Str) (i : Int) : Option Str := if x.length ≤ sizeLine then (atI x.cps.toList i).map fun c => ⟨#[c]⟩ else none
theorem e_ixS {m1 : Mx Str} {m2 : Mx Int} (ha : EM X W Γ a .str m1) (hb : EM X W Γ b .int m2) (hs : PlainIx b := by intro _ _; rfl) : EM X W Γ (.Subscript a b pos) .str (m1 >>= fun x => m2 >>= fun y => ofO (atS x y)) :=
  e_ix (t1 := .str) (t2 := .int) (r := .d .str) (g := fun x y => atS x y) ix_str hs (fun x y z e v w F H Q s r1 r2 k => by
    cases (List.cons.inj (show [v] = _ from r1)).1
    cases (List.cons.inj (show [w] = _ from r2)).1
    unfold atS at e
    by_cases h : x.length ≤ sizeLine
    · rw [if_pos h] at e
      cases q : atI x.cps.toList y with
      | none => rw [q] at e; cases e
      | some c =>
        rw [q] at e
        cases e
        exact ⟨x, y, c, rfl, rfl, h, q, k _ F H (Ext.refl s) rfl⟩
    · rw [if_neg h] at e; cases e) ha hb
end
end Gm
set_option Elab.async false
set_option linter.all false
set_option maxRecDepth 100000
set_option maxHeartbeats 4000000
namespace Gm
open PySem PySem.Spec L2

section
variable {X : Cx} {W : WX} {Γ : Ctx} {a b c e : Expr} {es : List Expr} {pos p p2 cpos apos : Pos} {t t1 t2 : Ty} {r : Rt} {F H : Hp} {x : Str}

/-! ## fields by place -/
def Ty.sing : Ty → Bool
  | .non => true
  | .scr => true
  | .opt t => t.some_
  | .pr _ _ => false
  | .nl => false
  | .sum _ _ => false
  | _ => true
theorem rl_sing {K : PySem.W.Frag} {mg : Str → Option Value} {t : Ty} {x : t.den} {vs : List V} (h : t.sing = true) (r : rl K mg t x vs F) : ∃ v, vs = [v] := by
  cases t with
  | non => exact ⟨_, r⟩
  | scr => obtain ⟨_, e, _⟩ := r; exact ⟨_, e⟩
  | opt t =>
    cases x with
    | none => exact ⟨_, r⟩
    | some y => exact rl_one h r.2
  | int => exact rl_one (t := .int) rfl r
  | bool => exact rl_one (t := .bool) rfl r
  | str => exact rl_one (t := .str) rfl r
  | tup fs => exact rl_one (t := .tup fs) rfl r
  | vtup fs => exact rl_one (t := .vtup fs) rfl r
  | hl fs => exact rl_one (t := .hl fs) rfl r
  | list fs => exact rl_one (t := .list fs) rfl r
  | ins c ns fs => exact rl_one (t := .ins c ns fs) rfl r
  | pr _ _ => cases h
  | nl => cases h
  | sum _ _ => cases h
inductive Fl : (fs : Ty) → Nat → (t : Ty) → (fs.den → t.den) → Prop
  | hd {a b : Ty} : Fl (.pr a b) 0 a (fun x => x.1)
  | tl {a b t : Ty} {n : Nat} {π : b.den → t.den} (h : Fl b n t π) : Fl (.pr a b) (n + 1) t (fun x => π x.2)
  | last {t : Ty} (h : t.sing = true) : Fl t 0 t (fun x => x)
theorem Fl.at_ {K : PySem.W.Frag} {mg : Str → Option Value} {fs : Ty} {n : Nat} {t : Ty} {π : fs.den → t.den} (h : Fl fs n t π) : ∀ {x : fs.den} {ws : List V}, rl K mg fs x ws F → ∃ v, ws[n]? = some v ∧ rl K mg t (π x) [v] F := by
  induction h with
  | hd => intro x ws q; obtain ⟨v, r, rfl, q1, _⟩ := q; exact ⟨v, rfl, q1⟩
  | tl h ih => intro x ws q; obtain ⟨v, r, rfl, _, q2⟩ := q; obtain ⟨u, h1, h2⟩ := ih q2; exact ⟨u, by simpa using h1, h2⟩
  | last h => intro x ws q; obtain ⟨v, rfl⟩ := rl_sing h q; exact ⟨v, rfl, q⟩
/-- t[n], n written -/
theorem e_fld {fs : Ty} {i : Int} {n : Nat} {π : fs.den → t.den} {j : Nat} {m : Mx fs.den} (ha : EM X W Γ a (.tup fs) m) (hf : Fl fs n t π) (hi : i = (n : Int) := by rfl) (hs : PlainIx (.Constant (.int i) j p) := by intro _ _; rfl) :
    EM X W Γ (.Subscript a (.Constant (.int i) j p) pos) t (m >>= fun x => .ok (π x)) :=
  pe_imp (pe_ix ix_tup ha (pe_int (i := i)) hs) fun σ H Q ⟨F, s, d, q⟩ => ⟨F, s, d, q.bind.mono fun x px v F1 H1 e1 r1 => by
    subst hi
    obtain ⟨p, ws, e2, sq, rr⟩ := r1
    cases (List.cons.inj e2).1
    obtain ⟨u, h1, h2⟩ := hf.at_ rr
    exact ⟨p, ws, (n : Int), u, rfl, rfl, sqT_same e1.i sq, atI_nat h1, px u F1 H1 e1 h2⟩⟩
/-- l[n], n written, of a list of many kinds -/
theorem e_fldL {fs : Ty} {i : Int} {n : Nat} {π : fs.den → t.den} {j : Nat} {m : Mx fs.den} (ha : EM X W Γ a (.hl fs) m) (hf : Fl fs n t π) (hi : i = (n : Int) := by rfl) (hs : PlainIx (.Constant (.int i) j p) := by intro _ _; rfl) :
    EM X W Γ (.Subscript a (.Constant (.int i) j p) pos) t (m >>= fun x => .ok (π x)) :=
  pe_imp (pe_ix ix_list ha (pe_int (i := i)) hs) fun σ H Q ⟨F, s, d, q⟩ => ⟨F, s, d, q.bind.mono fun x px v F1 H1 e1 r1 => by
    subst hi
    obtain ⟨p, ws, e2, sq, rr⟩ := r1
    cases (List.cons.inj e2).1
    obtain ⟨u, h1, h2⟩ := hf.at_ rr
    exact ⟨p, ws, (n : Int), u, rfl, rfl, SqL.of (e1.i _ _ sq), atI_nat h1, px u F1 H1 e1 h2⟩⟩

/-! ## displays -/
def Ty.ar : Ty → Option Nat
  | .pr _ b => b.ar.map (· + 1)
  | .nl => some 0
  | .non => some 1
  | .scr => some 1
  | .opt t => if t.some_ then some 1 else none
  | .sum _ _ => none
  | .int => some 1
  | .bool => some 1
  | .str => some 1
  | .tup _ => some 1
  | .vtup _ => some 1
  | .hl _ => some 1
  | .list _ => some 1
  | .ins _ _ _ => some 1
theorem rl_ar {K : PySem.W.Frag} {mg : Str → Option Value} : ∀ {t : Ty} {n : Nat} {x : t.den} {vs : List V}, t.ar = some n → rl K mg t x vs F → vs.length = n
  | .pr a b, n, x, vs, h, r => by
    obtain ⟨v, r', rfl, _, q⟩ := r
    have h' : b.ar.map (· + 1) = some n := h
    cases e : b.ar with
    | none => rw [e] at h'; cases h'
    | some k =>
      rw [e] at h'
      have hn : k + 1 = n := Option.some.inj h'
      rw [List.length_cons, rl_ar e q, hn]
  | .nl, _, _, _, h, r => by cases h; rw [show _ = _ from r]; rfl
  | .non, _, _, _, h, r => by cases h; rw [show _ = _ from r]; rfl
  | .scr, _, _, _, h, r => by cases h; obtain ⟨_, e, _⟩ := r; rw [e]; rfl
  | .opt t, n, x, vs, h, r => by
    have h' : (if t.some_ then some 1 else none) = some n := h
    by_cases ht : t.some_ = true
    · rw [if_pos ht] at h'
      cases h'
      obtain ⟨v, rfl⟩ := rl_sing (t := .opt t) ht r
      rfl
    · rw [if_neg ht] at h'; cases h'
  | .int, _, _, _, h, r => by cases h; rw [show _ = _ from r]; rfl
  | .bool, _, _, _, h, r => by cases h; rw [show _ = _ from r]; rfl
  | .str, _, _, _, h, r => by cases h; rw [show _ = _ from r]; rfl
  | .tup _, _, _, _, h, r => by cases h; obtain ⟨_, _, e, _⟩ := r; rw [e]; rfl
  | .vtup _, _, _, _, h, r => by cases h; obtain ⟨_, _, e, _⟩ := r; rw [e]; rfl
  | .hl _, _, _, _, h, r => by cases h; obtain ⟨_, _, e, _⟩ := r; rw [e]; rfl
  | .list _, _, _, _, h, r => by cases h; obtain ⟨_, _, e, _⟩ := r; rw [e]; rfl
  | .ins _ _ _, _, _, _, h, r => by cases h; obtain ⟨_, _, _, _, e, _⟩ := r; rw [e]; rfl
def Ty.few (t : Ty) : Bool := match t.ar with
  | some n => decide (n ≤ 1000)
  | none => false
theorem rl_few {K : PySem.W.Frag} {mg : Str → Option Value} {t : Ty} {x : t.den} {vs : List V} (h : t.few = true) (r : rl K mg t x vs F) : vs.length ≤ sizeLine := by
  unfold Ty.few at h
  cases e : t.ar with
  | none => rw [e] at h; cases h
  | some n => rw [e] at h; rw [rl_ar e r]; exact len_le' (of_decide_eq_true h)
where len_le' {n : Nat} (h : n ≤ 1000) : n ≤ sizeLine := Nat.le_trans h (by decide)
/-- (a, b, ..) -/
theorem e_tup {fs : Ty} {m : Mx fs.den} {k : Nat} (h : EA X W Γ es fs m) (hl : fs.few = true := by rfl) : EM X W Γ (.Tuple es k pos) (.tup fs) m := pe_imp (pe_tup h) fun σ H Q ⟨F, s, d, q⟩ =>
  ⟨F, s, d, q.mono fun x px vs F1 H1 e1 r1 => ⟨rl_few hl r1, fun p np => by
    have e2 := Ext.new (o := .tup vs) e1.i np
    exact px (.ref p) (upd F1 p (.tup vs)) (upd H1 p (.tup vs)) (e1.trans e2) ⟨p, vs, rfl, SqT.of upd_same, rl_mono e2.f fs x vs r1⟩⟩⟩
/-- [a, b, ..] of many kinds -/
theorem e_hl {fs : Ty} {m : Mx fs.den} (h : EA X W Γ es fs m) (hl : fs.few = true := by rfl) : EM X W Γ (.List es pos) (.hl fs) m := pe_imp (pe_lst h) fun σ H Q ⟨F, s, d, q⟩ =>
  ⟨F, s, d, q.mono fun x px vs F1 H1 e1 r1 => ⟨rl_few hl r1, fun p np => by
    have e2 := Ext.new (o := .lst vs) e1.i np
    exact px (.ref p) (upd F1 p (.lst vs)) (upd H1 p (.lst vs)) (e1.trans e2) ⟨p, vs, rfl, upd_same, rl_mono e2.f fs x vs r1⟩⟩⟩
/-- items of one kind -/
def tL (mg : Str → Option Value) (K : PySem.W.Frag) (W : WX) (Γ : Ctx) (t : Ty) (n : Nat) (m : Mx (List t.den)) : TA := fun σ H Q => ∃ F, Same F H ∧ SD K mg Γ σ F ∧
  post mg W σ m F H fun x => ∀ vs F' H', Ext F H F' H' → all2 (fun y v => rl K mg t y [v] F') x vs → vs.length = n → Q vs H'
abbrev EL (X : Cx) (W : WX) (Γ : Ctx) (es : List Expr) (t : Ty) (n : Nat) (m : Mx (List t.den)) : Prop := PA X es (tL X.mg X.K W Γ t n m)
theorem el_nil : EL X W Γ [] t 0 (.ok []) := pa_imp pa_nil fun σ H Q ⟨F, s, d, p⟩ => p [] F H (Ext.refl s) True.intro rfl
theorem el_cons {n : Nat} {m : Mx t.den} {ms : Mx (List t.den)} (ha : EM X W Γ a t m) (hr : EL X W Γ es t n ms) (hs : starEach (a :: es) X.env = (false, eval a X.env) :: starEach es X.env := by rfl) :
    EL X W Γ (a :: es) t (n + 1) (m >>= fun x => ms >>= fun y => .ok (x :: y)) := pa_imp (pa_cons ha hr hs) fun σ H Q ⟨F, s, d, p⟩ => by
  refine ⟨F, s, d, p.bind.mono fun x px v F1 H1 e1 r1 => ⟨F1, e1.i, d.mono e1.f, post.ext e1 px.bind fun y py vs F2 H2 e2 r2 hn => ?_⟩⟩
  exact py (v :: vs) F2 H2 (e1.trans e2) ⟨rl_mono e2.f t x _ r1, r2⟩ (congrArg (· + 1) hn)
/-- a new list of data -/
theorem rtr_new {K : PySem.W.Frag} {mg : Str → Option Value} {xs : List t.den} {vs : List V} {p : Addr} {F' H0 : Hp} (r : all2 (fun y v => rl K mg t y [v] F') xs vs) (hF : Same F' H) (h0 : Same H0 H) (np : H p = none) :
    rtr K mg (.o (.l (.d t))) xs (.ref p) H0 F' (upd H p (.lst vs)) :=
  ⟨[p], ⟨p, vs, xs.map fun _ => [], rfl, by rw [flat_nil], upd_same, all3.of2 (fun x v q => ⟨rfl, q⟩) r⟩, by simp, fun a ha => by
    rw [List.mem_singleton.mp ha]; exact ⟨hF.free np, h0.free np⟩⟩
theorem e_lst {n : Nat} {m : Mx (List t.den)} (h : EL X W Γ es t n m) (hl : n ≤ 1000 := by decide) : EO X W Γ (.List es pos) (.l (.d t)) m := pe_imp (pe_lst h) fun σ H Q ⟨F, s, d, q⟩ =>
  ⟨F, s, d, q.mono fun x px vs F1 H1 e1 r1 hn => ⟨Nat.le_trans (by rw [hn]; exact hl) (by decide), fun p np =>
    px (.ref p) F1 _ (e1.trans (Ext.cell e1.i np)) (rtr_new r1 e1.i e1.h np)⟩⟩

/-! ## built-in functions -/
theorem e_abs {q : Pos} {m : Mx Int} (hg : Gl X "abs") (hm : X.mg "abs" = none) (ha : EM X W Γ a .int m) (hs : starEach [a] X.env = (false, eval a X.env) :: starEach [] X.env := by rfl) : EM X W Γ (.Call (.Name "abs" q) [a] [] pos) .int (m >>= fun x => .ok (if x < 0 then -x else x)) :=
  pe_imp (pe_callB call_abs hg hm (by decide +kernel) (ea_one ha hs) (he := hs)) (args_of (ts := .int) (r := .d .int) (k := fun x => .ok (if x < 0 then -x else x)) fun x vs F H σ Q s r1 k => by
    cases (show vs = _ from r1)
    exact ⟨x, rfl, k _ F H (Ext.refl s) rfl⟩)
theorem e_intI {q : Pos} {m : Mx Int} (hg : Gl X "int") (hm : X.mg "int" = none) (ha : EM X W Γ a .int m) (hs : starEach [a] X.env = (false, eval a X.env) :: starEach [] X.env := by rfl) : EM X W Γ (.Call (.Name "int" q) [a] [] pos) .int m :=
  pe_imp (pe_callTy call_int1 hg hm (by decide +kernel) (ea_one ha hs) (he := hs)) fun σ H Q ⟨F, s, d, p⟩ => ⟨F, s, d, p.mono fun x px vs F1 H1 e1 r1 => by
    cases (show vs = _ from r1)
    exact .inl ⟨x, rfl, px _ F1 H1 e1 rfl⟩⟩
theorem e_intB {q : Pos} {m : Mx Bool} (hg : Gl X "int") (hm : X.mg "int" = none) (ha : EM X W Γ a .bool m) (hs : starEach [a] X.env = (false, eval a X.env) :: starEach [] X.env := by rfl) : EM X W Γ (.Call (.Name "int" q) [a] [] pos) .int (m >>= fun x => .ok (if x then 1 else 0)) :=
  pe_imp (pe_callTy call_int1 hg hm (by decide +kernel) (ea_one ha hs) (he := hs)) (args_of (ts := .bool) (r := .d .int) (k := fun x => .ok (if x then 1 else 0)) fun x vs F H σ Q s r1 k => by
    cases (show vs = _ from r1)
    exact .inr ⟨x, rfl, k _ F H (Ext.refl s) rfl⟩)
theorem e_max2 {q : Pos} {m1 m2 : Mx Int} (hc : X.calm = true) (hg : Gl X "max") (hm : X.mg "max" = none) (ha : EM X W Γ a .int m1) (hb : EM X W Γ b .int m2) (hs : starEach [a, b] X.env = (false, eval a X.env) :: starEach [b] X.env := by rfl) (hs2 : starEach [b] X.env = (false, eval b X.env) :: starEach [] X.env := by rfl)
    (hp : (backTo pos (starEach [b] X.env)).any (·.1) = false := by rfl) : EM X W Γ (.Call (.Name "max" q) [a, b] [] pos) .int (m1 >>= fun x => m2 >>= fun y => .ok (if y > x then y else x)) :=
  pe_imp (pe_callB (call_max2 hc) hg hm (by decide +kernel) (pa_cons ha (pa_cons hb pa_nil hs2) hs) (he := hs) (hpl := hp)) (two_of (t1 := .int) (t2 := .int) (r := .d .int) (k := fun x y => .ok (if y > x then y else x)) (rR := fun v w H Q => ∃ i j, [v, w] = [V.int i, V.int j] ∧ Q (.int (if j > i then j else i)) H) fun x y v w F H σ Q s r1 r2 k => by
    cases (List.cons.inj (show [v] = _ from r1)).1
    cases (List.cons.inj (show [w] = _ from r2)).1
    exact ⟨x, y, rfl, k _ F H (Ext.refl s) rfl⟩)
theorem e_min2 {q : Pos} {m1 m2 : Mx Int} (hc : X.calm = true) (hg : Gl X "min") (hm : X.mg "min" = none) (ha : EM X W Γ a .int m1) (hb : EM X W Γ b .int m2) (hs : starEach [a, b] X.env = (false, eval a X.env) :: starEach [b] X.env := by rfl) (hs2 : starEach [b] X.env = (false, eval b X.env) :: starEach [] X.env := by rfl)
    (hp : (backTo pos (starEach [b] X.env)).any (·.1) = false := by rfl) : EM X W Γ (.Call (.Name "min" q) [a, b] [] pos) .int (m1 >>= fun x => m2 >>= fun y => .ok (if y < x then y else x)) :=
  pe_imp (pe_callB (call_min2 hc) hg hm (by decide +kernel) (pa_cons ha (pa_cons hb pa_nil hs2) hs) (he := hs) (hpl := hp)) (two_of (t1 := .int) (t2 := .int) (r := .d .int) (k := fun x y => .ok (if y < x then y else x)) (rR := fun v w H Q => ∃ i j, [v, w] = [V.int i, V.int j] ∧ Q (.int (if j < i then j else i)) H) fun x y v w F H σ Q s r1 r2 k => by
    cases (List.cons.inj (show [v] = _ from r1)).1
    cases (List.cons.inj (show [w] = _ from r2)).1
    exact ⟨x, y, rfl, k _ F H (Ext.refl s) rfl⟩)
theorem e_lenL {q : Pos} {m : Mx (List t.den)} (hg : Gl X "len") (hm : X.mg "len" = none) (ha : EM X W Γ a (.list t) m) (hs : starEach [a] X.env = (false, eval a X.env) :: starEach [] X.env := by rfl) : EM X W Γ (.Call (.Name "len" q) [a] [] pos) .int (m >>= fun x => .ok (x.length : Int)) :=
  pe_imp (pe_callB call_len_seq hg hm (by decide +kernel) (ea_one ha hs) (he := hs)) (args_of (ts := .list t) (r := .d .int) (k := fun x => .ok (x.length : Int)) fun x vs F H σ Q s r1 k => by
    obtain ⟨p, ws, rfl, sq, rr⟩ := r1
    exact ⟨p, ws, rfl, .inl (SqL.of (s _ _ sq)), k _ F H (Ext.refl s) (by show _ = _; rw [rr.len])⟩)
theorem e_lenT {q : Pos} {m : Mx (List t.den)} (hg : Gl X "len") (hm : X.mg "len" = none) (ha : EM X W Γ a (.vtup t) m) (hs : starEach [a] X.env = (false, eval a X.env) :: starEach [] X.env := by rfl) : EM X W Γ (.Call (.Name "len" q) [a] [] pos) .int (m >>= fun x => .ok (x.length : Int)) :=
  pe_imp (pe_callB call_len_seq hg hm (by decide +kernel) (ea_one ha hs) (he := hs)) (args_of (ts := .vtup t) (r := .d .int) (k := fun x => .ok (x.length : Int)) fun x vs F H σ Q s r1 k => by
    obtain ⟨p, ws, rfl, sq, rr⟩ := r1
    exact ⟨p, ws, rfl, .inr (sqT_same s sq), k _ F H (Ext.refl s) (by show _ = _; rw [rr.len])⟩)
def lenS (x : Str) : Option Int := if x.length ≤ sizeLine then some (x.length : Int) else none
theorem e_lenS {q : Pos} {m : Mx Str} (hg : Gl X "len") (hm : X.mg "len" = none) (ha : EM X W Γ a .str m) (hs : starEach [a] X.env = (false, eval a X.env) :: starEach [] X.env := by rfl) : EM X W Γ (.Call (.Name "len" q) [a] [] pos) .int (m >>= fun x => ofO (lenS x)) :=
  pe_imp (pe_callB call_len_str hg hm (by decide +kernel) (ea_one ha hs) (he := hs)) (args_of (ts := .str) (r := .d .int) (k := fun x => ofO (lenS x)) fun x vs F H σ Q s r1 k => by
    cases (show vs = _ from r1)
    unfold lenS at k
    by_cases h : x.length ≤ sizeLine
    · rw [if_pos h] at k; exact ⟨x, rfl, h, k _ F H (Ext.refl s) rfl⟩
    · rw [if_neg h] at k; exact k.elim)
theorem e_listL {q : Pos} {m : Mx (List t.den)} (hg : Gl X "list") (hm : X.mg "list" = none) (ha : EM X W Γ a (.list t) m) (hs : starEach [a] X.env = (false, eval a X.env) :: starEach [] X.env := by rfl) : EO X W Γ (.Call (.Name "list" q) [a] [] pos) (.l (.d t)) m :=
  pe_imp (pe_callTy call_list_of hg hm (by decide +kernel) (ea_one ha hs) (he := hs)) fun σ H Q ⟨F, s, d, p⟩ => ⟨F, s, d, p.mono fun x px vs F1 H1 e1 r1 => by
    obtain ⟨a', ws, rfl, sq, rr⟩ := r1
    exact ⟨a', ws, rfl, .inl (SqL.of (e1.i _ _ sq)), fun l nl => px (.ref l) F1 _ (e1.trans (Ext.cell e1.i nl)) (rtr_new rr e1.i e1.h nl)⟩⟩
theorem e_listT {q : Pos} {m : Mx (List t.den)} (hg : Gl X "list") (hm : X.mg "list" = none) (ha : EM X W Γ a (.vtup t) m) (hs : starEach [a] X.env = (false, eval a X.env) :: starEach [] X.env := by rfl) : EO X W Γ (.Call (.Name "list" q) [a] [] pos) (.l (.d t)) m :=
  pe_imp (pe_callTy call_list_of hg hm (by decide +kernel) (ea_one ha hs) (he := hs)) fun σ H Q ⟨F, s, d, p⟩ => ⟨F, s, d, p.mono fun x px vs F1 H1 e1 r1 => by
    obtain ⟨a', ws, rfl, sq, rr⟩ := r1
    exact ⟨a', ws, rfl, .inr (sqT_same e1.i sq), fun l nl => px (.ref l) F1 _ (e1.trans (Ext.cell e1.i nl)) (rtr_new rr e1.i e1.h nl)⟩⟩
theorem e_tupL {q : Pos} {m : Mx (List t.den)} (hg : Gl X "tuple") (hm : X.mg "tuple" = none) (ha : EM X W Γ a (.list t) m) (hs : starEach [a] X.env = (false, eval a X.env) :: starEach [] X.env := by rfl) : EM X W Γ (.Call (.Name "tuple" q) [a] [] pos) (.vtup t) m :=
  pe_imp (pe_callTy call_tuple_of hg hm (by decide +kernel) (ea_one ha hs) (he := hs)) fun σ H Q ⟨F, s, d, p⟩ => ⟨F, s, d, p.mono fun x px vs F1 H1 e1 r1 => by
    obtain ⟨a', ws, rfl, sq, rr⟩ := r1
    refine ⟨a', ws, rfl, .inl ⟨SqL.of (e1.i _ _ sq), fun l nl => ?_⟩⟩
    have e2 := Ext.new (o := .tup ws) e1.i nl
    exact px (.ref l) _ _ (e1.trans e2) ⟨l, ws, rfl, SqT.of upd_same, rr.imp fun y v z => rl_mono e2.f t y [v] z⟩⟩
theorem e_tupT {q : Pos} {m : Mx (List t.den)} (hg : Gl X "tuple") (hm : X.mg "tuple" = none) (ha : EM X W Γ a (.vtup t) m) (hs : starEach [a] X.env = (false, eval a X.env) :: starEach [] X.env := by rfl) : EM X W Γ (.Call (.Name "tuple" q) [a] [] pos) (.vtup t) m :=
  pe_imp (pe_callTy call_tuple_of hg hm (by decide +kernel) (ea_one ha hs) (he := hs)) fun σ H Q ⟨F, s, d, p⟩ => ⟨F, s, d, p.mono fun x px vs F1 H1 e1 r1 => by
    obtain ⟨a', ws, rfl, sq, rr⟩ := r1
    exact ⟨a', ws, rfl, .inr ⟨sqT_same e1.i sq, px (.ref a') F1 H1 e1 ⟨a', ws, rfl, sq, rr⟩⟩⟩⟩
theorem all2_bools {K : PySem.W.Frag} {mg : Str → Option Value} : ∀ {bs : List Bool} {ws : List V}, all2 (fun (y : Bool) v => rl K mg .bool y [v] F) bs ws → ws = bs.map V.bl
  | [], [], _ => rfl
  | b :: bs, w :: ws, ⟨h, r⟩ => by cases (List.cons.inj (show [w] = _ from h)).1; rw [all2_bools r]; rfl
  | [], _ :: _, z => z.elim
  | _ :: _, [], z => z.elim
theorem all2_strs {K : PySem.W.Frag} {mg : Str → Option Value} : ∀ {bs : List Str} {ws : List V}, all2 (fun (y : Str) v => rl K mg .str y [v] F) bs ws → ws = bs.map V.str
  | [], [], _ => rfl
  | b :: bs, w :: ws, ⟨h, r⟩ => by cases (List.cons.inj (show [w] = _ from h)).1; rw [all2_strs r]; rfl
  | [], _ :: _, z => z.elim
  | _ :: _, [], z => z.elim
theorem all2_ints {K : PySem.W.Frag} {mg : Str → Option Value} : ∀ {bs : List Int} {ws : List V}, all2 (fun (y : Int) v => rl K mg .int y [v] F) bs ws → ws = bs.map V.int
  | [], [], _ => rfl
  | b :: bs, w :: ws, ⟨h, r⟩ => by cases (List.cons.inj (show [w] = _ from h)).1; rw [all2_ints r]; rfl
  | [], _ :: _, z => z.elim
  | _ :: _, [], z => z.elim
theorem e_all {q : Pos} {m : Mx (List Bool)} (hc : X.calm = true) (hg : Gl X "all") (hm : X.mg "all" = none) (ha : EM X W Γ a (.list .bool) m) (hs : starEach [a] X.env = (false, eval a X.env) :: starEach [] X.env := by rfl) : EM X W Γ (.Call (.Name "all" q) [a] [] pos) .bool (m >>= fun x => .ok (x.all id)) :=
  pe_imp (pe_callB (cr_all hc) hg hm (by decide +kernel) (ea_one ha hs) (he := hs)) (args_of (ts := .list .bool) (r := .d .bool) (k := fun x => .ok (x.all id)) fun x vs F H σ Q s r1 k => by
    obtain ⟨p, ws, rfl, sq, rr⟩ := r1
    cases all2_bools rr
    exact ⟨p, x, rfl, SqL.of (s _ _ sq), k _ F H (Ext.refl s) rfl⟩)
theorem e_any {q : Pos} {m : Mx (List Bool)} (hc : X.calm = true) (hg : Gl X "any") (hm : X.mg "any" = none) (ha : EM X W Γ a (.list .bool) m) (hs : starEach [a] X.env = (false, eval a X.env) :: starEach [] X.env := by rfl) : EM X W Γ (.Call (.Name "any" q) [a] [] pos) .bool (m >>= fun x => .ok (x.any id)) :=
  pe_imp (pe_callB (cr_any hc) hg hm (by decide +kernel) (ea_one ha hs) (he := hs)) (args_of (ts := .list .bool) (r := .d .bool) (k := fun x => .ok (x.any id)) fun x vs F H σ Q s r1 k => by
    obtain ⟨p, ws, rfl, sq, rr⟩ := r1
    cases all2_bools rr
    exact ⟨p, x, rfl, SqL.of (s _ _ sq), k _ F H (Ext.refl s) rfl⟩)
theorem e_sum {q : Pos} {m : Mx (List Int)} (hc : X.calm = true) (hg : Gl X "sum") (hm : X.mg "sum" = none) (ha : EM X W Γ a (.list .int) m) (hs : starEach [a] X.env = (false, eval a X.env) :: starEach [] X.env := by rfl) : EM X W Γ (.Call (.Name "sum" q) [a] [] pos) .int (m >>= fun x => .ok x.sum) :=
  pe_imp (pe_callB (cr_sum hc) hg hm (by decide +kernel) (ea_one ha hs) (he := hs)) (args_of (ts := .list .int) (r := .d .int) (k := fun x => .ok x.sum) fun x vs F H σ Q s r1 k => by
    obtain ⟨p, ws, rfl, sq, rr⟩ := r1
    cases all2_ints rr
    exact ⟨p, x, rfl, SqL.of (s _ _ sq), k _ F H (Ext.refl s) rfl⟩)
/-- what type(x) is of a code -/
def Ty.cls : Ty → Option String
  | .int => some "int"
  | .bool => some "bool"
  | .str => some "str"
  | .non => some "NoneType"
  | .tup _ => some "tuple"
  | .vtup _ => some "tuple"
  | .hl _ => some "list"
  | .list _ => some "list"
  | _ => none
theorem tyx_T {K : PySem.W.Frag} {H : Hp} {a : Addr} {ws : List V} (h : SqT K H a ws) : TyX K H (.ref a) (.type "tuple") := by
  rcases h with (h | ⟨o, h⟩) | ⟨o, its, n, h, c, _⟩
  · exact .base (.tup h)
  · exact .fTuple h
  · exact .kTuple h c
theorem rl_tyx {K : PySem.W.Frag} {mg : Str → Option Value} {t : Ty} {x : t.den} {v : V} {T : String} (h : t.cls = some T) (s : Same F H) (r : rl K mg t x [v] F) : TyX K H v (.type T) := by
  cases t with
  | int => cases h; cases (List.cons.inj (show [v] = _ from r)).1; exact .base (.int _)
  | bool => cases h; cases (List.cons.inj (show [v] = _ from r)).1; exact .base (.bl _)
  | str => cases h; cases (List.cons.inj (show [v] = _ from r)).1; exact .base (.str _)
  | non => cases h; cases (List.cons.inj (show [v] = _ from r)).1; exact .base .non
  | tup fs => cases h; obtain ⟨p, ws, e, sq, _⟩ := r; cases (List.cons.inj e).1; exact tyx_T (sqT_same s sq)
  | vtup fs => cases h; obtain ⟨p, ws, e, sq, _⟩ := r; cases (List.cons.inj e).1; exact tyx_T (sqT_same s sq)
  | hl fs => cases h; obtain ⟨p, ws, e, sq, _⟩ := r; cases (List.cons.inj e).1; exact .base (.lst (s _ _ sq))
  | list fs => cases h; obtain ⟨p, ws, e, sq, _⟩ := r; cases (List.cons.inj e).1; exact .base (.lst (s _ _ sq))
  | _ => cases h
theorem e_isi {q q2 : Pos} {m : Mx t.den} {n : Str} {T T' : String} {res : Bool} (hg : Gl X "isinstance") (hm : X.mg "isinstance" = none) (ha : EM X W Γ a t m) (ht : t.cls = some T) (hn : PE X (.Name n q2) (tC (.ty T'))) (hk : kitB T T' = some res)
    (hs : starEach [a, .Name n q2] X.env = (false, eval a X.env) :: starEach [.Name n q2] X.env := by rfl) : EM X W Γ (.Call (.Name "isinstance" q) [a, .Name n q2] [] pos) .bool (m >>= fun _ => .ok res) :=
  pe_imp (pe_callB call_isi hg hm (by decide +kernel) (pa_cons ha (pa_cons hn pa_nil) hs) (he := hs)) fun σ H Q ⟨F, s, d, p⟩ => ⟨F, s, d, p.bind.mono fun x px v F1 H1 e1 r1 =>
    ⟨v, .ty T', .type T, .type T', res, rfl, .ty T', rl_tyx ht e1.i r1, kit_ty hk, px _ F1 H1 e1 rfl⟩⟩
/-- sep.join(list of texts) -/
def joinO (a : Str) (ys : List Str) : Option Str := if (ys.map (·.length)).sum + ys.length * a.length ≤ 16777216 then some (Txt.join a ys) else none
theorem e_join {m1 : Mx Str} {m2 : Mx (List Str)} (ha : EM X W Γ a .str m1) (hb : EM X W Γ b (.list .str) m2) (hs : starEach [b] X.env = [(false, eval b X.env)] := by rfl) (hbase : attributeBase a "join" X.env (eval a X.env) = eval a X.env := by rfl) (hline : (apos.endLine == pos.line) = true := by rfl) :
    EM X W Γ (.Call (.Attribute a "join" apos) [b] [] pos) .str (m1 >>= fun x => m2 >>= fun y => ofO (joinO x y)) := pe_imp (pe_join ha hb hs hbase hline) fun σ H Q ⟨F, s, d, p⟩ =>
  ⟨F, s, d, p.bind.mono fun x px v F1 H1 e1 r1 => by
    cases (List.cons.inj (show [v] = _ from r1)).1
    refine ⟨⟨x, rfl⟩, F1, e1.i, d.mono e1.f, post.ext e1 px.bind fun y py w F2 H2 e2 r2 => ?_⟩
    obtain ⟨p, ws, e3, sq, rr⟩ := r2
    cases (List.cons.inj e3).1
    cases all2_strs rr
    unfold joinO at py
    by_cases h : (y.map (·.length)).sum + y.length * x.length ≤ 16777216
    · rw [if_pos h] at py
      exact ⟨x, p, y, rfl, rfl, .inl (SqL.of (e2.i _ _ sq)), h, py _ F2 H2 (e1.trans e2) rfl⟩
    · rw [if_neg h] at py; exact py.elim⟩
/-! ## slices -/
theorem p_none : EP' X W Γ none (.ok none) := po_imp po_none fun σ H Q ⟨F, s, d, p⟩ => p F H (Ext.refl s)
theorem p_some {m : Mx Int} (h : EM X W Γ a .int m) : EP' X W Γ (some a) (m >>= fun x => .ok (some x)) := po_imp (po_some h) fun σ H Q ⟨F, s, d, p⟩ => ⟨F, s, d, p.bind.mono fun x px v F1 H1 e1 r1 => by
  cases (List.cons.inj (show [v] = _ from r1)).1
  exact ⟨x, rfl, px F1 H1 e1⟩⟩
theorem sl_of {lo hi : Option Expr} {m1 : Mx t1.den} {ml mh : Mx (Option Int)} {k : t1.den → Option Int → Option Int → Mx r.den} {rR : V → Option Int → Option Int → Hp → VK → Prop} (ho : SlR X rR)
    (hr : ∀ x l u v F H σ Q, Same F H → rl X.K X.mg t1 x [v] F → (post X.mg W σ (k x l u) F H fun z => ∀ u F' H', Ext F H F' H' → rtr X.K X.mg r z u H F' H' → Q u H') → rR v l u H Q)
    (ha : EM X W Γ a t1 m1) (hl : EP' X W Γ lo ml) (hh : EP' X W Γ hi mh) : ER X W Γ (.Subscript a (.Slice lo hi none p2) pos) r (m1 >>= fun x => ml >>= fun l => mh >>= fun u => k x l u) :=
  pe_imp (pe_slice ho ha hl hh) fun σ H Q ⟨F, s, d, p⟩ => ⟨F, s, d, p.bind.mono fun x px v F1 H1 e1 r1 => ⟨F1, e1.i, d.mono e1.f, post.ext e1 px.bind fun l pl F2 H2 e2 => ⟨F2, e2.i, d.mono (e1.f.trans e2.f), post.ext (e1.trans e2) pl.bind fun u pu F3 H3 e3 => by
    refine hr x l u v F3 H3 σ Q e3.i (rl_mono (e2.f.trans e3.f) t1 x _ r1) ?_
    exact post.ext ((e1.trans e2).trans e3) pu fun z pz w F4 H4 e4 r4 => pz w F4 H4 (((e1.trans e2).trans e3).trans e4) (rtr_pre ((e1.h.trans e2.h).trans e3.h) r4)⟩⟩⟩
def cut {α : Type} (xs : List α) (lo hi : Option Int) : List α := (xs.drop (HT.sIx xs.length 0 lo)).take (HT.sIx xs.length xs.length hi - HT.sIx xs.length 0 lo)
theorem cut_cutV {R : t.den → V → Prop} {xs : List t.den} {vs : List V} (h : all2 R xs vs) (lo hi : Option Int) : all2 R (cut xs lo hi) (cutV vs lo hi) := by
  unfold cut cutV
  rw [h.len]
  exact (h.drop _).take _
theorem e_slL {lo hi : Option Expr} {m1 : Mx (List t.den)} {ml mh : Mx (Option Int)} (ha : EM X W Γ a (.list t) m1) (hl : EP' X W Γ lo ml) (hh : EP' X W Γ hi mh) : EO X W Γ (.Subscript a (.Slice lo hi none p2) pos) (.l (.d t)) (m1 >>= fun x => ml >>= fun l => mh >>= fun u => .ok (cut x l u)) :=
  sl_of (t1 := .list t) (r := .o (.l (.d t))) (k := fun x l u => .ok (cut x l u)) sl_list (fun x l u v F H σ Q s r1 k => by
    obtain ⟨p, ws, e, sq, rr⟩ := r1
    cases (List.cons.inj e).1
    exact ⟨p, ws, rfl, SqL.of (s _ _ sq), fun q nq => k (.ref q) F _ (Ext.cell s nq) (rtr_new (cut_cutV (R := fun y v => rl X.K X.mg t y [v] F) rr l u) s (Same.refl _) nq)⟩) ha hl hh
/-- of the script -/
theorem e_slScr {lo hi : Option Expr} {m1 : Mx (List Int)} {ml mh : Mx (Option Int)} (ha : EM X W Γ a .scr m1) (hl : EP' X W Γ lo ml) (hh : EP' X W Γ hi mh) : EO X W Γ (.Subscript a (.Slice lo hi none p2) pos) (.l (.d .int)) (m1 >>= fun x => ml >>= fun l => mh >>= fun u => .ok (cut x l u)) :=
  sl_of (t1 := .scr) (r := .o (.l (.d .int))) (k := fun x l u => .ok (cut x l u)) sl_list (fun x l u v F H σ Q s r1 k => by
    obtain ⟨p, e, sq⟩ := r1
    cases (List.cons.inj e).1
    have rr : ∀ xs : List Int, all2 (fun (y : Int) v => rl X.K X.mg .int y [v] F) xs (xs.map V.int) := fun xs => by
      induction xs with
      | nil => exact True.intro
      | cons y ys ih => exact ⟨rfl, ih⟩
    exact ⟨p, x.map V.int, rfl, s.seq sq, fun q nq => k (.ref q) F _ (Ext.cell s nq) (rtr_new (t := .int) (cut_cutV (t := .int) (R := fun y v => rl X.K X.mg .int y [v] F) (rr x) l u) s (Same.refl _) nq)⟩) ha hl hh
def slS (x : Str) (lo hi : Option Int) : Option Str := if x.length ≤ sizeLine then some (cutS x lo hi) else none
theorem e_slS {lo hi : Option Expr} {m1 : Mx Str} {ml mh : Mx (Option Int)} (ha : EM X W Γ a .str m1) (hl : EP' X W Γ lo ml) (hh : EP' X W Γ hi mh) : EM X W Γ (.Subscript a (.Slice lo hi none p2) pos) .str (m1 >>= fun x => ml >>= fun l => mh >>= fun u => ofO (slS x l u)) :=
  sl_of (t1 := .str) (r := .d .str) (k := fun x l u => ofO (slS x l u)) sl_str (fun x l u v F H σ Q s r1 k => by
    cases (List.cons.inj (show [v] = _ from r1)).1
    unfold slS at k
    by_cases h : x.length ≤ sizeLine
    · rw [if_pos h] at k; exact ⟨x, rfl, h, k _ F H (Ext.refl s) rfl⟩
    · rw [if_neg h] at k; exact k.elim) ha hl hh
/-! ## lists and tuples joined -/
def catL {α : Type} (x y : List α) : Option (List α) := if x.length + y.length ≤ sizeLine then some (x ++ y) else none
theorem e_catL {m1 m2 : Mx (List t.den)} (ha : EM X W Γ a (.list t) m1) (hb : EM X W Γ b (.list t) m2) : EO X W Γ (.BinOp a .Add b pos) (.l (.d t)) (m1 >>= fun x => m2 >>= fun y => ofO (catL x y)) := e_bin (t1 := .list t) (t2 := .list t) (r := .o (.l (.d t))) (g := catL) op_cat (fun x y z e v w F H Q s r1 r2 k => by
  unfold catL at e
  by_cases h : x.length + y.length ≤ sizeLine
  · rw [if_pos h] at e
    cases e
    obtain ⟨p, ws, e1, sq1, rr1⟩ := r1
    cases (List.cons.inj e1).1
    obtain ⟨q, zs, e2, sq2, rr2⟩ := r2
    cases (List.cons.inj e2).1
    exact ⟨p, q, ws, zs, rfl, rfl, s _ _ sq1, s _ _ sq2, by rw [← rr1.len, ← rr2.len]; exact h, fun l nl => k (.ref l) F _ (Ext.cell s nl) (rtr_new (rr1.app rr2) s (Same.refl _) nl)⟩
  · rw [if_neg h] at e; cases e) ha hb
end
end Gm
set_option Elab.async false
set_option linter.all false
set_option maxRecDepth 100000
set_option maxHeartbeats 4000000
namespace Gm
open PySem PySem.Spec L2

/-! ## several places at once -/
def setL {α : Type} : List α → List Nat → List α → List α
  | l, i :: is, a :: as => setL (l.set i a) is as
  | l, _, _ => l
theorem setL_len {α : Type} : ∀ {is : List Nat} {l as : List α}, (setL l is as).length = l.length
  | [], _, [] => rfl
  | [], _, _ :: _ => rfl
  | _ :: _, _, [] => rfl
  | i :: is, l, a :: as => by
    show (setL (l.set i a) is as).length = _
    rw [setL_len, List.length_set]
theorem setL_app {α : Type} : ∀ {is js : List Nat} {l as bs : List α}, is.length = as.length → setL l (is ++ js) (as ++ bs) = setL (setL l is as) js bs
  | [], _, _, [], _, _ => rfl
  | _ :: is, js, l, a :: as, bs, h => setL_app (is := is) (l := l.set _ a) (Nat.succ.inj h)
  | [], _, _, _ :: _, _, h => by cases h
  | _ :: _, _, _, [], _, h => by cases h
section
variable (K : PySem.W.Frag) (mg : Str → Option Value)
/-- slots and what they get -/
def bdL : List Slot → List V → Hp → Prop
  | [], [], _ => True
  | .d t x :: ss, v :: vs, F => rl K mg t x [v] F ∧ bdL ss vs F
  | _, _, _ => False
/-- a target of data of the code t: the slots is become S x -/
def gR (t : Ty) (is : List Nat) (S : t.den → List Slot) : TG := fun v σ H Q => ∃ x F, Same F H ∧ rl K mg t x [v] F ∧ ∀ ws, is.length = ws.length → bdL K mg (S x) ws F → Q (setL σ is (ws.map some)) H
/-- several targets -/
def gRs (t : Ty) (is : List Nat) (S : t.den → List Slot) : TGs := fun vs σ H Q => ∃ x F, Same F H ∧ rl K mg t x vs F ∧ ∀ ws, is.length = ws.length → bdL K mg (S x) ws F → Q (setL σ is (ws.map some)) H
end
abbrev GT (X : Cx) (tg : Expr) (t : Ty) (is : List Nat) (S : t.den → List Slot) : Prop := PG X tg (gR X.K X.mg t is S)
abbrev GTs (X : Cx) (tg : List Expr) (t : Ty) (is : List Nat) (S : t.den → List Slot) : Prop := PGs X tg (gRs X.K X.mg t is S)
section
variable {K : PySem.W.Frag} {mg : Str → Option Value} {F F' : Hp}
theorem bdL_app : ∀ {ss tt : List Slot} {vs ws : List V}, bdL K mg ss vs F → bdL K mg tt ws F → bdL K mg (ss ++ tt) (vs ++ ws) F
  | [], _, [], _, _, h => h
  | .d _ _ :: ss, _, _ :: vs, _, ⟨a, b⟩, h => ⟨a, bdL_app b h⟩
  | [], _, _ :: _, _, z, _ => z.elim
  | .d _ _ :: _, _, [], _, z, _ => z.elim
  | .no :: _, _, _, _, z, _ => z.elim
  | .o _ _ :: _, _, _, _, z, _ => z.elim
theorem bdL_mono (h : Same F F') : ∀ {ss : List Slot} {vs : List V}, bdL K mg ss vs F → bdL K mg ss vs F'
  | [], [], _ => True.intro
  | .d t x :: ss, v :: vs, ⟨a, b⟩ => ⟨rl_mono h t x _ a, bdL_mono h b⟩
  | [], _ :: _, z => z.elim
  | .d _ _ :: _, [], z => z.elim
  | .no :: _, _, z => z.elim
  | .o _ _ :: _, _, z => z.elim
theorem bdL_len : ∀ {ss : List Slot} {vs : List V}, bdL K mg ss vs F → ss.length = vs.length
  | [], [], _ => rfl
  | .d _ _ :: ss, _ :: vs, ⟨_, b⟩ => congrArg (· + 1) (bdL_len b)
  | [], _ :: _, z => z.elim
  | .d _ _ :: _, [], z => z.elim
  | .no :: _, _, z => z.elim
  | .o _ _ :: _, _, z => z.elim
end
section
variable {X : Cx} {tg e : Expr} {es : List Expr} {pos p : Pos} {t t1 t2 : Ty}
theorem pg_imp {g g' : TG} (h : PG X tg g) (i : ∀ v σ H Q, g' v σ H Q → g v σ H Q) : PG X tg g' := ⟨fun pins s σ H v u Q I r q => h.run pins s σ H v u Q I r (i v σ H Q q)⟩
theorem pgs_imp {g g' : TGs} (h : PGs X es g) (i : ∀ v σ H Q, g' v σ H Q → g v σ H Q) : PGs X es g' := ⟨fun pins s σ H v u Q I r q => h.run pins s σ H v u Q I r (i v σ H Q q)⟩
theorem g_nm (i : Nat) (h : PG X tg (gName i)) : GT X tg t [i] (fun x => [.d t x]) := pg_imp h fun v σ H Q ⟨x, F, s, r, k⟩ => k [v] rfl ⟨r, True.intro⟩
theorem gs_one {is : List Nat} {S : t.den → List Slot} (h : GT X tg t is S) (ht : t.sing = true := by rfl) (hs : (assignEach [tg] X.env).map (·.2) = assign tg X.env :: (assignEach [] X.env).map (·.2) := by rfl) : GTs X [tg] t is S :=
  pgs_imp (pgs_cons h pgs_nil hs) fun vs σ H Q ⟨x, F, s, r, k⟩ => by
    obtain ⟨v, rfl⟩ := rl_sing ht r
    exact ⟨v, [], rfl, x, F, s, r, fun ws hl hb => ⟨rfl, k ws hl hb⟩⟩
theorem gs_cons {is js : List Nat} {S : t1.den → List Slot} {T : t2.den → List Slot} (h : GT X tg t1 is S) (hr : GTs X es t2 js T) (hs : (assignEach (tg :: es) X.env).map (·.2) = assign tg X.env :: (assignEach es X.env).map (·.2) := by rfl) :
    GTs X (tg :: es) (.pr t1 t2) (is ++ js) (fun x => S x.1 ++ T x.2) := pgs_imp (pgs_cons h hr hs) fun vs σ H Q ⟨x, F, s, r, k⟩ => by
    obtain ⟨v, r', rfl, q1, q2⟩ := r
    exact ⟨v, r', rfl, x.1, F, s, q1, fun ws hl hb => ⟨x.2, F, s, q2, fun zs hl' hb' => by
      rw [← setL_app (by rw [List.length_map]; exact hl), ← List.map_append]
      exact k (ws ++ zs) (by rw [List.length_append, List.length_append, hl, hl']) (bdL_app hb hb')⟩⟩
theorem g_tup {is : List Nat} {S : t.den → List Slot} {k n : Nat} (hc : X.calm = true) (h : GTs X es t is S) (har : t.ar = some n := by rfl) (hn : (assignEach es X.env).length = n := by rfl) (hst : (assignEach es X.env).findIdx? (·.1) = none := by rfl) : GT X (.Tuple es k pos) (.tup t) is S :=
  pg_imp (pg_tup hc h hn hst) fun v σ H Q ⟨x, F, s, r, kk⟩ => by
    obtain ⟨a, ws, e, sq, rr⟩ := r
    exact ⟨a, ws, (List.cons.inj e).1, sqT_same s sq, rl_ar har rr, x, F, s, rr, kk⟩
theorem g_hl {is : List Nat} {S : t.den → List Slot} {k n : Nat} (hc : X.calm = true) (h : GTs X es t is S) (har : t.ar = some n := by rfl) (hn : (assignEach es X.env).length = n := by rfl) (hst : (assignEach es X.env).findIdx? (·.1) = none := by rfl) : GT X (.Tuple es k pos) (.hl t) is S :=
  pg_imp (pg_lst hc h hn hst) fun v σ H Q ⟨x, F, s, r, kk⟩ => by
    obtain ⟨a, ws, e, sq, rr⟩ := r
    exact ⟨a, ws, (List.cons.inj e).1, SqL.of (s _ _ sq), rl_ar har rr, x, F, s, rr, kk⟩
end

/-! ## what is walked -/
structure Wlk (K : PySem.W.Frag) (mg : Str → Option Value) (t : Ty) (J : It) (xs : List t.den) (F : Hp) : Prop where
  go : ∀ i H, Same F H → i < xs.length → J.go i H
  stop : ∀ i H, Same F H → xs.length ≤ i → J.stop i H
  yld : ∀ i H v H3, Same F H → i < xs.length → J.yld i H v H3 → ∃ x, xs[i]? = some x ∧ ∀ G, Same F G → Same G H → ∃ G', Ext G H G' H3 ∧ rl K mg t x [v] G'
def tI (mg : Str → Option Value) (K : PySem.W.Frag) (W : WX) (Γ : Ctx) (t : Ty) (m : Mx (List t.den)) : TI := fun σ H R => ∃ F, Same F H ∧ SD K mg Γ σ F ∧
  post mg W σ m F H fun xs => ∀ F' H' J, Ext F H F' H' → Wlk K mg t J xs F' → R J H'
abbrev EI (X : Cx) (W : WX) (Γ : Ctx) (tg iter : Expr) (t : Ty) (m : Mx (List t.den)) : Prop := PI X tg iter (tI X.mg X.K W Γ t m)
theorem pi_imp {X : Cx} {tg it : Expr} {w w' : TI} (h : PI X tg it w) (i : ∀ σ H R, w' σ H R → w σ H R) : PI X tg it w' := ⟨fun pins s σ H R I q => h.run pins s σ H R I (i σ H R q)⟩
section
variable {X : Cx} {W : WX} {Γ : Ctx} {tg a b : Expr} {pos p : Pos} {t : Ty}
theorem i_list {m : Mx (List t.den)} (ha : EM X W Γ a (.list t) m) : EI X W Γ tg a t m := pi_imp (pi_list ha) fun σ H R ⟨F, s, d, q⟩ => ⟨F, s, d, q.mono fun x px v F1 H1 e1 r1 => by
  obtain ⟨l, ws, e, sq, rr⟩ := r1
  refine ⟨l, (List.cons.inj e).1, ⟨ws, SqL.of (e1.i _ _ sq)⟩, px F1 H1 _ e1 ⟨fun i H s hi => ?_, fun i H s hi => ⟨ws, SqL.of (s _ _ sq), by rw [← rr.len]; exact hi⟩, fun i H v H3 s _ y => ?_⟩⟩
  · obtain ⟨v, h1, _⟩ := rr.get (List.getElem?_eq_getElem hi)
    exact ⟨ws, v, SqL.of (s _ _ sq), h1⟩
  · obtain ⟨rfl, y⟩ := y
    obtain ⟨z, h1, h2⟩ := rr.getV (y ws (SqL.of (s _ _ sq)))
    exact ⟨z, h1, fun G g1 g2 => ⟨G, Ext.refl g2, rl_mono g1 t z _ h2⟩⟩⟩
theorem i_vtup {m : Mx (List t.den)} (ha : EM X W Γ a (.vtup t) m) : EI X W Γ tg a t m := pi_imp (pi_tup ha) fun σ H R ⟨F, s, d, q⟩ => ⟨F, s, d, q.mono fun x px v F1 H1 e1 r1 => by
  obtain ⟨l, ws, e, sq, rr⟩ := r1
  refine ⟨l, (List.cons.inj e).1, ⟨ws, sqT_same e1.i sq⟩, px F1 H1 _ e1 ⟨fun i H s hi => ?_, fun i H s hi => ⟨ws, sqT_same s sq, by rw [← rr.len]; exact hi⟩, fun i H v H3 s _ y => ?_⟩⟩
  · obtain ⟨v, h1, _⟩ := rr.get (List.getElem?_eq_getElem hi)
    exact ⟨ws, v, sqT_same s sq, h1⟩
  · obtain ⟨rfl, y⟩ := y
    obtain ⟨z, h1, h2⟩ := rr.getV (y ws (sqT_same s sq))
    exact ⟨z, h1, fun G g1 g2 => ⟨G, Ext.refl g2, rl_mono g1 t z _ h2⟩⟩⟩
def iran (lo hi : Int) : List Int := (List.range (hi - lo).toNat).map fun (k : Nat) => lo + (k : Int)
def ranO (lo hi : Int) : Option (List Int) := if -(2 ^ 62) ≤ lo ∧ lo < 2 ^ 62 ∧ -(2 ^ 62) ≤ hi ∧ hi < 2 ^ 62 then some (iran lo hi) else none
theorem wlk_ran {K : PySem.W.Frag} {mg : Str → Option Value} {lo hi : Int} (F : Hp) : Wlk K mg .int (Itr lo (hi - lo).toNat) (iran lo hi) F := by
  have hl : (iran lo hi).length = (hi - lo).toNat := by simp [iran]
  refine ⟨fun i H _ h => by rw [hl] at h; exact h, fun i H _ h => by rw [hl] at h; exact h, fun i H v H3 s hi y => ?_⟩
  obtain ⟨rfl, rfl⟩ := y
  refine ⟨lo + (i : Int), ?_, fun G g1 g2 => ⟨G, Ext.refl g2, rfl⟩⟩
  rw [hl] at hi
  simp [iran, hi]
theorem i_ran1 {m : Mx Int} (hg : Gl X "range") (hm : X.mg "range" = none) (ha : EM X W Γ a .int m) (hs : starEach [a] X.env = [(false, eval a X.env)] := by rfl) : EI X W Γ tg (.Call (.Name "range" p) [a] [] pos) .int (m >>= fun n => ofO (ranO 0 n)) :=
  pi_imp (pi_range1 hg hm (ea_one ha hs) hs) fun σ H R ⟨F, s, d, q⟩ => ⟨F, s, d, q.bind.mono fun x px vs F1 H1 e1 r1 => by
    cases (show vs = _ from r1)
    unfold ranO at px
    split at px
    · rename_i h
      refine ⟨x, rfl, h.2.2.1, h.2.2.2, ?_⟩
      have := wlk_ran (K := X.K) (mg := X.mg) (lo := 0) (hi := x) F1
      rw [Int.sub_zero] at this
      exact px F1 H1 _ e1 this
    · exact px.elim⟩
theorem i_ran2 {m1 m2 : Mx Int} (hg : Gl X "range") (hm : X.mg "range" = none) (ha : EM X W Γ a .int m1) (hb : EM X W Γ b .int m2) (hs : starEach [a, b] X.env = [(false, eval a X.env), (false, eval b X.env)] := by rfl) (hs2 : starEach [b] X.env = [(false, eval b X.env)] := by rfl) :
    EI X W Γ tg (.Call (.Name "range" p) [a, b] [] pos) .int (m1 >>= fun l => m2 >>= fun n => ofO (ranO l n)) :=
  pi_imp (pi_range2 hg hm (pa_cons ha (pa_cons hb pa_nil hs2) (by rw [hs, hs2])) hs hs2) fun σ H R ⟨F, s, d, q⟩ => ⟨F, s, d, q.bind.mono fun x px v F1 H1 e1 r1 => ⟨F1, e1.i, d.mono e1.f, post.ext e1 px.bind fun y py w F2 H2 e2 r2 => by
    cases (List.cons.inj (show [v] = _ from r1)).1
    cases (List.cons.inj (show [w] = _ from r2)).1
    unfold ranO at py
    split at py
    · rename_i h
      exact ⟨x, y, rfl, ⟨h.1, h.2.1, h.2.2.1, h.2.2.2⟩, py F2 H2 _ (e1.trans e2) (wlk_ran F2)⟩
    · exact py.elim⟩⟩
end

/-! ## comprehensions -/
def optC {β : Type} (o : Option β) (r : List β) : List β := o.toList ++ r
def compL {α β : Type} : List α → (α → Mx (Option β)) → Mx (List β)
  | [], _ => .ok []
  | x :: xs, f => match f x with
    | .ok o => compL xs f >>= fun r => .ok (optC o r)
    | _ => .no
def compO {α β : Type} (xs : List α) (f : α → Mx (Option β)) : Mx (List β) := if xs.length ≤ sizeLine then compL xs f else .no
def W0 : WX := fun _ _ _ _ => False
/-- the tests of a comprehension -/
abbrev ETs (X : Cx) (W : WX) (Γ : Ctx) (es : List Expr) (m : Mx Bool) : Prop := PTs X es (tT X.mg X.K W Γ m)
section
variable {X : Cx} {W : WX} {Γ : Ctx} {tg a b : Expr} {pos p : Pos} {t t1 : Ty}
theorem pts_imp {es : List Expr} {t t' : TT} (h : PTs X es t) (i : ∀ σ H Q, t' σ H Q → t σ H Q) : PTs X es t' := ⟨fun pins s σ H Q I q => h.run pins s σ H Q I (i σ H Q q)⟩
theorem ts_nil : ETs X W Γ [] (.ok true) := pts_imp pts_nil fun σ H Q ⟨F, s, d, q⟩ => q F H (Ext.refl s)
theorem ts_one {m : Mx Bool} (h : ET X W Γ a m) : ETs X W Γ [a] m := pts_one h
theorem pe_ex {α : Type} {e : Expr} {t : α → TE} (h : ∀ x, PE X e (t x)) : PE X e (fun σ H Q => ∃ x, t x σ H Q) := ⟨fun pins s σ H Q I ⟨x, q⟩ => (h x).run pins s σ H Q I q⟩
theorem pts_ex {α : Type} {es : List Expr} {t : α → TT} (h : ∀ x, PTs X es (t x)) : PTs X es (fun σ H Q => ∃ x, t x σ H Q) := ⟨fun pins s σ H Q I ⟨x, q⟩ => (h x).run pins s σ H Q I q⟩
def wipeC (Γ : Ctx) : List Nat → Ctx
  | [] => Γ
  | v :: vs => (wipeC Γ vs).set v .no
theorem wipe_get {σ : L2.St} {j : Nat} : ∀ {vs : List Nat}, (wipe σ vs)[j]? = if j ∈ vs ∧ j < σ.length then some none else σ[j]?
  | [] => by simp [wipe]
  | v :: vs => by
    unfold wipe
    by_cases hj : v = j
    · subst hj
      by_cases hl : v < σ.length
      · rw [List.getElem?_set_self (by rw [wipe_length]; exact hl), if_pos ⟨List.mem_cons_self .., hl⟩]
      · rw [if_neg fun z => hl z.2, List.getElem?_eq_none (by rw [List.length_set, wipe_length]; omega), List.getElem?_eq_none (by omega)]
    · rw [List.getElem?_set_ne hj, wipe_get (vs := vs)]
      by_cases hm : j ∈ vs ∧ j < σ.length
      · rw [if_pos hm, if_pos ⟨List.mem_cons_of_mem _ hm.1, hm.2⟩]
      · rw [if_neg hm, if_neg fun z => hm ⟨(List.mem_cons.mp z.1).resolve_left fun q => hj q.symm, z.2⟩]
theorem setL_get_ne {α : Type} {j : Nat} : ∀ {is : List Nat} {l as : List α}, j ∉ is → (setL l is as)[j]? = l[j]?
  | [], _, [], _ => rfl
  | [], _, _ :: _, _ => rfl
  | _ :: _, _, [], _ => rfl
  | i :: is, l, a :: as, h => by
    show (setL (l.set i a) is as)[j]? = _
    rw [setL_get_ne fun z => h (List.mem_cons_of_mem _ z), List.getElem?_set_ne fun z => h (by rw [z]; exact List.mem_cons_self ..)]
theorem wipe_setL {σ : L2.St} {vs is : List Nat} {ws : List (Option V)} (h : ∀ i ∈ is, i ∈ vs) : wipe (setL (wipe σ vs) is ws) vs = wipe σ vs := by
  apply List.ext_getElem?
  intro j
  rw [wipe_get, wipe_get, setL_len, wipe_length]
  by_cases hm : j ∈ vs ∧ j < σ.length
  · rw [if_pos hm, if_pos hm]
  · rw [if_neg hm, if_neg hm]
    by_cases hj : j ∈ vs
    · have hl : ¬ j < σ.length := fun z => hm ⟨hj, z⟩
      rw [List.getElem?_eq_none (by rw [setL_len, wipe_length]; omega), List.getElem?_eq_none (by omega)]
    · rw [setL_get_ne fun z => hj (h j z), wipe_get, if_neg hm]
theorem SD.wipe {K : PySem.W.Frag} {mg : Str → Option Value} {σ : L2.St} {F : Hp} (d : SD K mg Γ σ F) : ∀ vs : List Nat, SD K mg (wipeC Γ vs) (L2.wipe σ vs) F
  | [] => d
  | v :: vs => fun i s e => by
    have e : ((wipeC Γ vs).set v .no)[i]? = some s := e
    unfold L2.wipe
    by_cases hi : v = i
    · subst hi
      have hl : v < (wipeC Γ vs).length := by
        have := (List.getElem?_eq_some_iff.mp e).1
        rw [List.length_set] at this; exact this
      obtain ⟨ov, e1, _⟩ := d.wipe vs v _ (List.getElem?_eq_getElem hl)
      rw [List.getElem?_set_self hl] at e
      cases e
      exact ⟨none, List.getElem?_set_self (List.getElem?_eq_some_iff.mp e1).1, True.intro⟩
    · rw [List.getElem?_set_ne hi] at e
      obtain ⟨ov, e1, r⟩ := d.wipe vs i s e
      exact ⟨ov, by rw [List.getElem?_set_ne hi]; exact e1, r⟩
theorem SD.set1 {K : PySem.W.Frag} {mg : Str → Option Value} {σ : L2.St} {F : Hp} (d : SD K mg Γ σ F) {i : Nat} {s : Slot} {v : V} (r : sd K mg s (some v) F) : SD K mg (Γ.set i s) (σ.set i (some v)) F := fun j s' e => by
  by_cases hj : i = j
  · subst hj
    have hl : i < Γ.length := by
      have := (List.getElem?_eq_some_iff.mp e).1
      rw [List.length_set] at this; exact this
    obtain ⟨ov, e1, _⟩ := d i _ (List.getElem?_eq_getElem hl)
    rw [List.getElem?_set_self hl] at e
    cases e
    exact ⟨some v, List.getElem?_set_self (List.getElem?_eq_some_iff.mp e1).1, r⟩
  · rw [List.getElem?_set_ne hj] at e
    obtain ⟨ov, e1, r'⟩ := d j s' e
    exact ⟨ov, by rw [List.getElem?_set_ne hj]; exact e1, r'⟩
theorem SD.setL {K : PySem.W.Frag} {mg : Str → Option Value} {F : Hp} : ∀ {is : List Nat} {ss : List Slot} {ws : List V} {Γ : Ctx} {σ : L2.St}, SD K mg Γ σ F → bdL K mg ss ws F → SD K mg (Gm.setL Γ is ss) (Gm.setL σ is (ws.map some)) F
  | [], [], [], _, _, d, _ => d
  | [], .d _ _ :: _, _ :: _, _, _, d, _ => d
  | _ :: _, [], [], _, _, d, _ => d
  | i :: is, .d t x :: ss, w :: ws, Γ, σ, d, ⟨a, b⟩ => SD.setL (is := is) (d.set1 (i := i) (s := .d t x) (v := w) ⟨w, rfl, a⟩) b
  | _, [], _ :: _, _, _, _, z => z.elim
  | _, .d _ _ :: _, [], _, _, _, z => z.elim
  | _, .no :: _, _, _, _, _, z => z.elim
  | _, .o _ _ :: _, _, _, _, _, z => z.elim
def compF {α β : Type} (mt : α → Mx Bool) (me : α → Mx β) (x : α) : Mx (Option β) := mt x >>= fun b => if b then me x >>= fun y => .ok (some y) else .ok none
theorem compL_step {α β : Type} {xs : List α} {f : α → Mx (Option β)} {i : Nat} (hi : i < xs.length) {done : List β} (h : compL xs f = (compL (xs.drop i) f >>= fun r => .ok (done ++ r))) (hn : compL xs f ≠ .no) :
    ∃ o, f xs[i] = .ok o ∧ compL xs f = (compL (xs.drop (i + 1)) f >>= fun r => .ok ((done ++ o.toList) ++ r)) := by
  rw [List.drop_eq_getElem_cons hi] at h
  have e : compL (xs[i] :: xs.drop (i + 1)) f = match f xs[i] with
    | .ok o => compL (xs.drop (i + 1)) f >>= fun r => .ok (optC o r)
    | _ => .no := rfl
  rw [e] at h
  cases q : f xs[i] with
  | ex z => rw [q] at h; exact absurd h hn
  | no => rw [q] at h; exact absurd h hn
  | ok o =>
    rw [q] at h
    refine ⟨o, rfl, h.trans ?_⟩
    show ((compL (xs.drop (i + 1)) f >>= fun r => Mx.ok (optC o r)) >>= fun r => Mx.ok (done ++ r)) = _
    cases compL (xs.drop (i + 1)) f with
    | ex z => rfl
    | no => rfl
    | ok r =>
      cases o with
      | none => show Mx.ok (done ++ r) = Mx.ok ((done ++ []) ++ r); rw [List.append_nil]
      | some y => show Mx.ok (done ++ (y :: r)) = Mx.ok ((done ++ [y]) ++ r); rw [List.append_assoc]; rfl
/-- [elt for tg in iter if ..] -/
theorem lc_read {is : List Nat} {S : t.den → List Slot} {mi : Mx (List t.den)} {mt : t.den → Mx Bool} {me : t.den → Mx t1.den} {vs : List Nat} (his : ∀ i ∈ is, i ∈ vs) :
    ∀ σ H Q, tR X.mg X.K W Γ (.o (.l (.d t1))) (mi >>= fun xs => compO xs (compF mt me)) σ H Q →
      tLc (tI X.mg X.K W Γ t mi) (gR X.K X.mg t is S) (fun σ H Q => ∃ x, tT X.mg X.K W0 (setL (wipeC Γ vs) is (S x)) (mt x) σ H Q) (fun σ H Q => ∃ x, tR X.mg X.K W0 (setL (wipeC Γ vs) is (S x)) (.d t1) (me x) σ H Q) vs σ H Q := by
  intro σ H Q ⟨F, s, d, p⟩
  refine ⟨F, s, d, p.bind.mono fun xs pxs F1 H1 J e1 w D nD => ?_⟩
  unfold compO at pxs
  by_cases hz : xs.length ≤ sizeLine
  rotate_left
  · rw [if_neg hz] at pxs; exact pxs.elim
  rw [if_pos hz] at pxs
  have hnd : compL xs (compF mt me) ≠ .no := fun z => by rw [z] at pxs; exact pxs
  have e1D : Ext F1 H1 F1 (upd H1 D (.lst [])) := Ext.cell e1.i nD
  refine ⟨fun i m H' => i ≤ xs.length ∧ m = xs.length - i ∧ ∃ G acc done, Same F1 G ∧ Ext F H G H' ∧ H' D = some (.lst acc) ∧ G D = none ∧ all2 (fun y v => rl X.K X.mg t1 y [v] G) done acc ∧ done.length ≤ i ∧
    compL xs (compF mt me) = (compL (xs.drop i) (compF mt me) >>= fun r => .ok (done ++ r)), ⟨xs.length, Nat.zero_le _, by simp, F1, [], [], Same.refl _, e1.trans e1D, upd_same, e1.i.free nD, True.intro, Nat.le_refl _, ?_⟩, ?_⟩
  · rw [List.drop_zero]
    cases compL xs (compF mt me) <;> rfl
  · rintro i m H' ⟨hi, rfl, G, acc, done, f1, e2, hD, gD, rr, hd, hc⟩
    have f1H : Same F1 H' := f1.trans e2.i
    by_cases hlt : i < xs.length
    · refine .inr ⟨w.go i H' f1H hlt, fun H'' => ∃ m', m' < xs.length - i ∧ (i + 1 ≤ xs.length ∧ m' = xs.length - (i + 1) ∧ ∃ G acc done, Same F1 G ∧ Ext F H G H'' ∧ H'' D = some (.lst acc) ∧ G D = none ∧ all2 (fun y v => rl X.K X.mg t1 y [v] G) done acc ∧ done.length ≤ i + 1 ∧
          compL xs (compF mt me) = (compL (xs.drop (i + 1)) (compF mt me) >>= fun r => .ok (done ++ r))), fun _ z => z, fun v H3 y => ?_⟩
      obtain ⟨x, hx, kx⟩ := w.yld i H' v H3 f1H hlt y
      have hxx : xs[i] = x := by rw [List.getElem?_eq_getElem hlt] at hx; exact Option.some.inj hx
      obtain ⟨G1, x1, rx⟩ := kx G f1 e2.i
      obtain ⟨o, ho, hc'⟩ := compL_step hlt hc hnd
      rw [hxx] at ho
      refine ⟨x, G1, x1.i, rx, fun ws hl hb => ⟨wipe_setL his, x, G1, x1.i, ?_, ?_⟩⟩
      · exact SD.setL (is := is) ((d.mono (e2.f.trans x1.f)).wipe vs) hb
      · cases qt : mt x with
        | ex z => unfold compF at ho; rw [qt] at ho; cases ho
        | no => unfold compF at ho; rw [qt] at ho; cases ho
        | ok b =>
          intro G2 H4 x2
          cases b with
          | false =>
            rw [if_neg Bool.false_ne_true]
            have ho' : o = none := by unfold compF at ho; rw [qt] at ho; exact (Mx.ok.inj ho).symm
            subst ho'
            refine ⟨xs.length - (i + 1), by omega, by omega, rfl, G2, acc, done, f1.trans (x1.f.trans x2.f), e2.trans (x1.trans x2), x2.h _ _ (x1.h _ _ hD), ?_, rr.imp fun y v z => rl_mono (x1.f.trans x2.f) t1 y [v] z, by omega, by rw [hc']; simp⟩
            exact x2.n D (by rw [x1.h _ _ hD]; exact fun z => nomatch z) (x1.n D (by rw [hD]; exact fun z => nomatch z) gD)
          | true =>
            rw [if_pos rfl]
            refine ⟨x, G2, x2.i, SD.setL (is := is) ((d.mono ((e2.f.trans x1.f).trans x2.f)).wipe vs) (bdL_mono x2.f hb), ?_⟩
            cases qe : me x with
            | ex z => unfold compF at ho; rw [qt] at ho; change (me x >>= fun y => Mx.ok (some y)) = _ at ho; rw [qe] at ho; cases ho
            | no => unfold compF at ho; rw [qt] at ho; change (me x >>= fun y => Mx.ok (some y)) = _ at ho; rw [qe] at ho; cases ho
            | ok z =>
              have ho' : o = some z := by unfold compF at ho; rw [qt] at ho; change (me x >>= fun y => Mx.ok (some y)) = _ at ho; rw [qe] at ho; exact (Mx.ok.inj ho).symm
              subst ho'
              intro u G3 H5 x3 r3
              have x4 := x1.trans (x2.trans x3)
              have hD5 : H5 D = some (.lst acc) := x4.h _ _ hD
              have gD3 : G3 D = none := x4.n D (by rw [hD]; exact fun z => nomatch z) gD
              have nDH : H D = none := e1.h.free nD
              refine ⟨acc, hD5, by rw [← rr.len]; omega, xs.length - (i + 1), by omega, by omega, rfl, G3, acc ++ [u], done ++ [z], f1.trans x4.f, ⟨(e2.trans x4).f, fun b o eb => ?_, fun b o eb => ?_, (e2.trans x4).n⟩, upd_same, gD3, ?_, by rw [List.length_append, List.length_singleton]; omega, by rw [hc']; rfl⟩
              · rw [upd_ne (ne_of_none eb nDH)]; exact (e2.trans x4).h _ _ eb
              · rw [upd_ne (fun z => by rw [z, gD3] at eb; cases eb)]; exact x4.i _ _ eb
              · exact (rr.imp fun y v z => rl_mono x4.f t1 y [v] z).app ⟨r3, True.intro⟩
    · have hi' : i = xs.length := by omega
      subst hi'
      refine .inl ⟨w.stop _ H' f1H (Nat.le_refl _), ?_⟩
      rw [List.drop_length] at hc
      have hc2 : compL xs (compF mt me) = .ok (done ++ []) := hc
      rw [hc2, List.append_nil] at pxs
      exact pxs (.ref D) G H' e2 ⟨[D], ⟨D, acc, done.map fun _ => [], rfl, by rw [flat_nil], hD, all3.of2 (fun x v q => ⟨rfl, q⟩) rr⟩, by simp, fun a ha => by
        rw [List.mem_singleton.mp ha]; exact ⟨gD, e1.h.free nD⟩⟩
theorem e_lc {elt iter : Expr} {ifs : List Expr} {scope : Scope} {own : List (Str × Nat)} {is : List Nat} {S : t.den → List Slot} {mi : Mx (List t.den)} {mt : t.den → Mx Bool} {me : t.den → Mx t1.den} (hc : X.calm = true) (hN : X.N.Nodup) (ok : BlkOk X.N X.env.scope scope own)
    (hi : EI X W Γ tg iter t mi) (hg : ∀ (s : Shared) (H : Hp) (C : Addr) (cl : List (Str × Addr)) (fp : List Addr), GT (X.blk s H scope (compEnvC scope cl C X.env) fp) tg t is S)
    (ht : ∀ (x : t.den) (s : Shared) (H : Hp) (C : Addr) (cl : List (Str × Addr)) (fp : List Addr), ETs (X.blk s H scope (compEnvC scope cl C X.env) fp) W0 (setL (wipeC Γ (own.map (·.2))) is (S x)) ifs (mt x))
    (he : ∀ (x : t.den) (s : Shared) (H : Hp) (C : Addr) (cl : List (Str × Addr)) (fp : List Addr), EM (X.blk s H scope (compEnvC scope cl C X.env) fp) W0 (setL (wipeC Γ (own.map (·.2))) is (S x)) elt t1 (me x))
    (his : ∀ i ∈ is, i ∈ own.map (·.2) := by decide) (hs : ∀ x, foldedSetIterable iter X.env x = pure x := by intro _; rfl) :
    EO X W Γ (.ListComp elt [⟨tg, iter, ifs, 0⟩] scope pos) (.l (.d t1)) (mi >>= fun xs => compO xs (compF mt me)) :=
  pe_imp (pe_lc hc hN hi ok hg (fun s H C cl fp => pts_ex fun x => ht x s H C cl fp) (fun s H C cl fp => pe_ex fun x => he x s H C cl fp) hs) (lc_read his)
/-- y = [elt for ..] on one line -/
theorem p_lc {i : Nat} {y : Str} {py : Pos} {spos : Pos} {elt iter : Expr} {ifs : List Expr} {scope : Scope} {own : List (Str × Nat)} {is : List Nat} {S : t.den → List Slot} {mi : Mx (List t.den)} {mt : t.den → Mx Bool} {me : t.den → Mx t1.den} (hc : X.calm = true) (hN : X.N.Nodup)
    (hy : X.N[i]? = some y) (hyl : X.env.scope.names.lookup y = some .local) (hsw : swapsWith (.ListComp elt [⟨tg, iter, ifs, 0⟩] scope pos) (some (.Name y py)) spos.line X.env = pure true) (ok : BlkOk X.N X.env.scope scope own)
    (hi : EI X W Γ tg iter t mi) (hg : ∀ (s : Shared) (H : Hp) (C : Addr) (cl : List (Str × Addr)) (fp : List Addr), GT (X.blk s H scope (compEnvC scope cl C X.env) fp) tg t is S)
    (ht : ∀ (x : t.den) (s : Shared) (H : Hp) (C : Addr) (cl : List (Str × Addr)) (fp : List Addr), ETs (X.blk s H scope (compEnvC scope cl C X.env) fp) W0 (setL (wipeC Γ (own.map (·.2))) is (S x)) ifs (mt x))
    (he : ∀ (x : t.den) (s : Shared) (H : Hp) (C : Addr) (cl : List (Str × Addr)) (fp : List Addr), EM (X.blk s H scope (compEnvC scope cl C X.env) fp) W0 (setL (wipeC Γ (own.map (·.2))) is (S x)) elt t1 (me x))
    (his : ∀ i ∈ is, i ∈ own.map (·.2) := by decide) (hs : ∀ x, foldedSetIterable iter X.env x = pure x := by intro _; rfl) :
    PS X (.Assign [.Name y py] (.ListComp elt [⟨tg, iter, ifs, 0⟩] scope pos) spos) (tAsg (tR X.mg X.K W Γ (.o (.l (.d t1))) (mi >>= fun xs => compO xs (compF mt me))) (gName i)) := by
  have h := ps_setLc (X := X) (g := gR X.K X.mg t is S) (tt := fun σ H Q => ∃ x, tT X.mg X.K W0 (setL (wipeC Γ (own.map (·.2))) is (S x)) (mt x) σ H Q) (te := fun σ H Q => ∃ x, tR X.mg X.K W0 (setL (wipeC Γ (own.map (·.2))) is (S x)) (.d t1) (me x) σ H Q) hc hN hy hyl hsw hi ok hg (fun s H C cl fp => pts_ex fun x => ht x s H C cl fp) (fun s H C cl fp => pe_ex fun x => he x s H C cl fp) hs
  exact ⟨fun pins s σ H D I q => h.run pins s σ H D I (lc_read his _ _ _ q)⟩
end
end Gm
set_option Elab.async false
set_option linter.all false
set_option maxRecDepth 100000
set_option maxHeartbeats 4000000
namespace Gm
open PySem PySem.Spec L2

/-! ## statements -/
inductive Out where
  | nx (Γ : Ctx) | rt (r : Rt) (x : r.den) | bk (Γ : Ctx) | ct (Γ : Ctx)
def Out.stays : Out → Bool
  | .nx _ => true
  | _ => false
section
variable (K : PySem.W.Frag) (mg : Str → Option Value)
def postS (W : WX) (E : Ent) {β : Type} (m : Mx β) (P : β → Prop) : Prop := match m with
  | .ok b => P b
  | .ex e => ∀ cls d σ F H, Ext E.F0 E.B F H → (∀ i ∈ E.hk, σ[i]? = E.s0[i]?) → xr mg e cls d H → W cls d σ H
  | .no => False
def outP (E : Ent) (D : Ends) : Out → Prop
  | .nx Γ => ∀ σ F H, SG K mg E Γ σ F H → D.nx σ H
  | .bk Γ => ∀ σ F H, SG K mg E Γ σ F H → D.bk σ H
  | .ct Γ => ∀ σ F H, SG K mg E Γ σ F H → D.ct σ H
  | .rt r x => ∀ v F H, Ext E.F0 E.B F H → rtr K mg r x v E.B F H → D.rt v H
def tS (W : WX) (hk : List Nat) (Γ : Ctx) {β : Type} (m : Mx β) (I : β → Out) : TS := fun D σ H => ∃ E F, E.hk = hk ∧ SG K mg E Γ σ F H ∧ postS mg W E m fun b => outP K mg E D (I b)
end
abbrev BS (X : Cx) (W : WX) (hk : List Nat) (Γ : Ctx) (st : List Stmt) {β : Type} (m : Mx β) (I : β → Out) : Prop := PSs X st (tS X.K X.mg W hk Γ m I)
abbrev S1 (X : Cx) (W : WX) (hk : List Nat) (Γ : Ctx) (st : Stmt) {β : Type} (m : Mx β) (I : β → Out) : Prop := PS X st (tS X.K X.mg W hk Γ m I)
theorem pss_imp {X : Cx} {st : List Stmt} {t t' : TS} (h : PSs X st t) (i : ∀ D σ H, t' D σ H → t D σ H) : PSs X st t' := ⟨fun pins s σ H D I q => h.run pins s σ H D I (i D σ H q)⟩
theorem ps_imp {X : Cx} {st : Stmt} {t t' : TS} (h : PS X st t) (i : ∀ D σ H, t' D σ H → t D σ H) : PS X st t' := ⟨fun pins s σ H D I q => h.run pins s σ H D I (i D σ H q)⟩
section
variable {mg : Str → Option Value} {K : PySem.W.Frag} {W : WX} {E : Ent} {α β : Type} {Γ Γ' : Ctx} {σ : L2.St} {F H F' H' : Hp}
theorem postS.bind {m : Mx α} {k : α → Mx β} {P : β → Prop} (h : postS mg W E (m >>= k) P) : postS mg W E m fun x => postS mg W E (k x) P := by
  cases m with
  | ok a => exact h
  | ex e => exact h
  | no => exact h
theorem postS.mono {m : Mx α} {P P' : α → Prop} (h : postS mg W E m P) (i : ∀ x, P x → P' x) : postS mg W E m P' := by
  cases m with
  | ok a => exact i a h
  | ex e => exact h
  | no => exact h
/-- an expression's part -/
theorem postS.post {m : Mx α} {P P' : α → Prop} (g : SG K mg E Γ σ F H) {G : Hp} (back : ∀ F' H', Ext G H F' H' → ∃ F2, Ext F H F2 H') (h : postS mg W E m P) (i : ∀ x, P x → P' x) : post mg W σ m G H P' := by
  cases m with
  | ok a => exact i a h
  | ex e =>
    intro cls d F' H' x r
    obtain ⟨F2, x2⟩ := back F' H' x
    exact h cls d σ F2 H' (g.e0.trans x2) g.kp r
  | no => exact h
/-- how an expression may look at the state -/
inductive Vw (Γ : Ctx) (r : Rt) : Ctx → Prop
  | all (h : r.flat = true) : Vw Γ r Γ
  | hid : Vw Γ r (hide Γ)
theorem SG.look {Γv : Ctx} {r : Rt} (g : SG K mg E Γ σ F H) (v : Vw Γ r Γv) : ∃ G, Same G H ∧ SD K mg Γv σ G ∧ ∀ F' H', Ext G H F' H' → ∃ F2, Ext F H F2 H' ∧ ∀ (x : r.den) (v : V), rtr K mg r x v H F' H' → rtr K mg r x v H F2 H' := by
  cases v with
  | all h =>
    obtain ⟨G, g1, _, g3, g4⟩ := g.eval h
    exact ⟨G, g1, g3, fun F' H' x => let ⟨F2, a, _, c⟩ := g4 F' H' x; ⟨F2, a, c⟩⟩
  | hid => exact ⟨F, g.e0.i, g.sd_hide, fun F' H' x => ⟨F', x, fun _ _ q => q⟩⟩
/-- less known -/
inductive Wk : Ctx → Ctx → Prop
  | nil : Wk [] []
  | same {a b : Ctx} {s : Slot} (h : Wk a b) : Wk (s :: a) (s :: b)
  | no {a b : Ctx} {s : Slot} (h : Wk a b) : Wk (.no :: a) (s :: b)
theorem Wk.refl : ∀ {Γ : Ctx}, Wk Γ Γ
  | [] => .nil
  | _ :: _ => .same Wk.refl
theorem Wk.get {a b : Ctx} (h : Wk a b) : ∀ {i : Nat} {s : Slot}, a[i]? = some s → ∃ u, b[i]? = some u ∧ (s = u ∨ s = .no) := by
  induction h with
  | nil => intro i s e; simp at e
  | @same a b s' h ih =>
    intro i s e
    cases i with
    | zero => exact ⟨s', rfl, .inl (by simpa using e.symm)⟩
    | succ i => obtain ⟨u, h1, h2⟩ := ih (i := i) (s := s) (by simpa using e); exact ⟨u, by simpa using h1, h2⟩
  | @no a b s' h ih =>
    intro i s e
    cases i with
    | zero => exact ⟨s', rfl, .inr (by simpa using e.symm)⟩
    | succ i => obtain ⟨u, h1, h2⟩ := ih (i := i) (s := s) (by simpa using e); exact ⟨u, by simpa using h1, h2⟩
theorem Wk.len {a b : Ctx} (h : Wk a b) : a.length = b.length := by
  induction h with
  | nil => rfl
  | same h ih => exact congrArg (· + 1) ih
  | no h ih => exact congrArg (· + 1) ih
theorem SG.weak (g : SG K mg E Γ σ F H) (w : Wk Γ' Γ) : SG K mg E Γ' σ F H := by
  obtain ⟨e0, kp, fps, q⟩ := g
  refine ⟨e0, kp, fun i => match Γ'[i]? with | some Slot.no => [] | none => [] | _ => fps i, fun i s e => ?_, fun i e => ?_, fun i => ?_, fun i j hij a ha => ?_, fun i a ha => ?_⟩
  · obtain ⟨u, h1, h2⟩ := w.get e
    obtain ⟨ov, e1, r⟩ := q.at_ i u h1
    refine ⟨ov, e1, ?_⟩
    rw [e]
    rcases h2 with rfl | rfl
    · cases s with
      | no => exact rfl
      | d t x => exact r
      | o o x => exact r
    · exact rfl
  · rw [e]
  · cases e : Γ'[i]? with
    | none => exact List.nodup_nil
    | some s => cases s with
      | no => exact List.nodup_nil
      | d t x => exact q.nd i
      | o o x => exact q.nd i
  · have sub : ∀ i, ∀ a ∈ (match Γ'[i]? with | some Slot.no => [] | none => [] | _ => fps i : List Addr), a ∈ fps i := fun i a ha => by
      cases e : Γ'[i]? with
      | none => rw [e] at ha; cases ha
      | some s => rw [e] at ha; cases s with
        | no => cases ha
        | d t x => exact ha
        | o o x => exact ha
    exact fun hb => q.sep i j hij a (sub i a ha) (sub j a hb)
  · have : a ∈ fps i := by
      cases e : Γ'[i]? with
      | none => rw [e] at ha; cases ha
      | some s => rw [e] at ha; cases s with
        | no => cases ha
        | d t x => exact ha
        | o o x => exact ha
    exact q.new i a this
end
section
variable {X : Cx} {W : WX} {hk : List Nat} {Γ Γ' Γv : Ctx} {st : Stmt} {rest A B' : List Stmt} {e c tg : Expr} {pos p : Pos} {β γ : Type} {r : Rt} {t : Ty} {I : β → Out}

/-! ## blocks -/
theorem bs_nil {b : β} (hI : I b = .nx Γ') (w : Wk Γ' Γ) : BS X W hk Γ [] (.ok b) I := pss_imp pss_nil fun D σ H ⟨E, F, h, g, q⟩ => by
  have q : outP X.K X.mg E D (I b) := q
  rw [hI] at q
  exact q σ F H (g.weak w)
theorem bs_one {m : Mx β} (h : S1 X W hk Γ st m I) : BS X W hk Γ [st] m I := pss_one h
/-- a statement that goes on, the rest -/
theorem bs_seq {α : Type} {m : Mx α} {G : α → Ctx} {k : α → Mx β} (h : S1 X W hk Γ st m fun s => .nx (G s)) (hr : ∀ s, BS X W hk (G s) rest (k s) I) : BS X W hk Γ (st :: rest) (m >>= k) I :=
  have hr' : PSs X rest (fun D σ H => ∃ s, tS X.K X.mg W hk (G s) (k s) I D σ H) := ⟨fun pins s σ H D J ⟨x, q⟩ => (hr x).run pins s σ H D J q⟩
  pss_imp (pss_cons h hr') fun D σ H ⟨E, F, h, g, q⟩ => ⟨E, F, h, g, q.bind.mono fun s qs σ' F' H' g' => ⟨s, E, F', h, g', qs⟩⟩
/-- a statement that may leave -/
inductive Fw (S R : Type) where
  | go (s : S) | out (r : R)
def fwk {S R β : Type} (k : S → Mx β) (j : R → β) : Fw S R → Mx β
  | .go s => k s
  | .out r => .ok (j r)
def fwo {S R : Type} (G : S → Ctx) (O : R → Out) : Fw S R → Out
  | .go s => .nx (G s)
  | .out r => O r
theorem bs_seqF {S R : Type} {m : Mx (Fw S R)} {G : S → Ctx} {O : R → Out} {k : S → Mx β} {j : R → β} (h : S1 X W hk Γ st m (fwo G O)) (hr : ∀ s, BS X W hk (G s) rest (k s) I) (hj : ∀ x, I (j x) = O x := by intro _; rfl) (ho : ∀ x, (O x).stays = false := by intro _; rfl) :
    BS X W hk Γ (st :: rest) (m >>= fwk k j) I :=
  have hr' : PSs X rest (fun D σ H => ∃ s, tS X.K X.mg W hk (G s) (k s) I D σ H) := ⟨fun pins s σ H D J ⟨x, q⟩ => (hr x).run pins s σ H D J q⟩
  pss_imp (pss_cons h hr') fun D σ H ⟨E, F, h, g, q⟩ => ⟨E, F, h, g, q.bind.mono fun s qs => by
    cases s with
    | go s => exact fun σ' F' H' g' => ⟨s, E, F', h, g', qs⟩
    | out x =>
      have q2 : outP X.K X.mg E D (I (j x)) := qs
      rw [hj] at q2
      have hx := ho x
      show outP X.K X.mg E _ (O x)
      cases e : O x with
      | nx Γ => rw [e] at hx; cases hx
      | rt r y => rw [e] at q2; exact q2
      | bk Γ => rw [e] at q2; exact q2
      | ct Γ => rw [e] at q2; exact q2⟩
theorem bs_map {m : Mx γ} {I' : γ → Out} {f : γ → β} (h : BS X W hk Γ A m I') (hI : ∀ b, I (f b) = I' b := by intro _; rfl) : BS X W hk Γ A (m >>= fun b => .ok (f b)) I := pss_imp h fun D σ H ⟨E, F, h, g, q⟩ =>
  ⟨E, F, h, g, q.bind.mono fun b qb => by have qb : outP X.K X.mg E D (I (f b)) := qb; rw [hI] at qb; exact qb⟩
theorem bs_cast {m m' : Mx β} (h : BS X W hk Γ A m I) (e : m = m') : BS X W hk Γ A m' I := e ▸ h
theorem bs_weak {m : Mx β} (h : BS X W hk Γ' A m I) (w : Wk Γ' Γ) : BS X W hk Γ A m I := pss_imp h fun D σ H ⟨E, F, h, g, q⟩ => ⟨E, F, h, g.weak w, q⟩
theorem bs_freeze (i : Nat) {o : Ow} {x : o.ty.den} {m : Mx β} (hi : Γ[i]? = some (.o o x)) (h : BS X W hk (Γ.set i (.d o.ty x)) A m I) : BS X W hk Γ A m I := pss_imp h fun D σ H ⟨E, F, h, g, q⟩ => let ⟨F', g'⟩ := g.freeze hi; ⟨E, F', h, g', q⟩

/-! ## assignments -/
theorem bs_set {i : Nat} {me : Mx r.den} {k : r.den → Mx β} (hs : PS X st (tAsg (tR X.mg X.K W Γv r me) (gName i))) (vw : Vw Γ r Γv) (hr : ∀ x, BS X W hk (Γ.set i (slotOf r x)) rest (k x) I) (hi : i < Γ.length := by decide) (hn : i ∉ hk := by decide) : BS X W hk Γ (st :: rest) (me >>= k) I :=
  have hr' : PSs X rest (fun D σ H => ∃ s, tS X.K X.mg W hk (Γ.set i (slotOf r s)) (k s) I D σ H) := ⟨fun pins s σ H D J ⟨x, q⟩ => (hr x).run pins s σ H D J q⟩
  pss_imp (pss_cons hs hr') fun D σ H ⟨E, F, h, g, q⟩ => by
    obtain ⟨G, g1, g2, g3⟩ := g.look vw
    refine ⟨G, g1, g2, q.bind.post g (fun F' H' x => let ⟨F2, a, _⟩ := g3 F' H' x; ⟨F2, a⟩) fun x px v F' H' ex rr => ?_⟩
    obtain ⟨F2, x2, back⟩ := g3 F' H' ex
    exact ⟨x, E, F2, h, g.set x2 (back x v rr) hi (by rw [h]; exact hn), px⟩
/-- several slots at once -/
theorem SG.setL {K : PySem.W.Frag} {mg : Str → Option Value} {E : Ent} {F H : Hp} : ∀ {is : List Nat} {ss : List Slot} {ws : List V} {Γ : Ctx} {σ : L2.St}, SG K mg E Γ σ F H → bdL K mg ss ws F → (∀ i ∈ is, i < Γ.length ∧ i ∉ E.hk) → SG K mg E (Gm.setL Γ is ss) (Gm.setL σ is (ws.map some)) F H
  | [], [], [], _, _, g, _, _ => g
  | [], .d _ _ :: _, _ :: _, _, _, g, _, _ => g
  | _ :: _, [], [], _, _, g, _, _ => g
  | i :: is, .d t x :: ss, w :: ws, Γ, σ, g, ⟨a, b⟩, hi => SG.setL (is := is) (g.set (r := .d t) (x := x) (v := w) (Ext.refl g.e0.i) a (hi i (List.mem_cons_self ..)).1 (hi i (List.mem_cons_self ..)).2) b fun j hj => by
      rw [List.length_set]; exact hi j (List.mem_cons_of_mem _ hj)
  | _, [], _ :: _, _, _, _, z, _ => z.elim
  | _, .d _ _ :: _, [], _, _, _, z, _ => z.elim
  | _, .no :: _, _, _, _, _, z, _ => z.elim
  | _, .o _ _ :: _, _, _, _, _, z, _ => z.elim
/-- target = e -/
theorem bs_asg {is : List Nat} {S : t.den → List Slot} {me : Mx t.den} {k : t.den → Mx β} (he : EM X W Γv e t me) (vw : Vw Γ (.d t) Γv) (hg : GT X tg t is S) (hr : ∀ x, BS X W hk (setL Γ is (S x)) rest (k x) I)
    (hi : ∀ i ∈ is, i < Γ.length ∧ i ∉ hk := by decide) (hs : swapsWithSole [tg] e pos.line X.env = pure false := by rfl) (hw : swappedStores [tg] e X.env = pure none := by rfl) (h1 : (assignEach [tg] X.env).map (·.2) = [assign tg X.env] := by rfl) : BS X W hk Γ (.Assign [tg] e pos :: rest) (me >>= k) I :=
  have hr' : PSs X rest (fun D σ H => ∃ s, tS X.K X.mg W hk (setL Γ is (S s)) (k s) I D σ H) := ⟨fun pins s σ H D J ⟨x, q⟩ => (hr x).run pins s σ H D J q⟩
  pss_imp (pss_cons (ps_asg he hg hs hw h1) hr') fun D σ H ⟨E, F, h, g, q⟩ => by
    obtain ⟨G, g1, g2, g3⟩ := g.look vw
    refine ⟨G, g1, g2, q.bind.post g (fun F' H' x => let ⟨F2, a, _⟩ := g3 F' H' x; ⟨F2, a⟩) fun x px v F' H' ex rr => ?_⟩
    obtain ⟨F2, x2, back⟩ := g3 F' H' ex
    refine ⟨x, F2, x2.i, back x v rr, fun ws hl hb => ⟨x, E, F2, h, ?_, px⟩⟩
    exact SG.setL (is := is) (g.grow x2) hb fun i hii => by rw [h]; exact hi i hii
/-- an expression whose value is dropped -/
theorem bs_expr {me : Mx r.den} {m : Mx β} (he : ER X W Γv e r me) (vw : Vw Γ r Γv) (hr : BS X W hk Γ rest m I) (hs : swapsWith e none pos.line X.env = pure false := by rfl) : BS X W hk Γ (.Expr e pos :: rest) (me >>= fun _ => m) I :=
  pss_imp (pss_cons (ps_expr he hs) hr) fun D σ H ⟨E, F, h, g, q⟩ => by
    obtain ⟨G, g1, g2, g3⟩ := g.look vw
    refine ⟨G, g1, g2, q.bind.post g (fun F' H' x => let ⟨F2, a, _⟩ := g3 F' H' x; ⟨F2, a⟩) fun x px v F' H' ex rr => ?_⟩
    obtain ⟨F2, x2, back⟩ := g3 F' H' ex
    exact ⟨E, F2, h, g.grow x2, px⟩
theorem bs_pass {m : Mx β} (hr : BS X W hk Γ rest m I) : BS X W hk Γ (.Pass pos :: rest) m I := pss_imp (pss_cons ps_pass hr) fun D σ H q => q

/-! ## return -/
theorem bs_ret {me : Mx r.den} {b : r.den → β} (he : ER X W Γv e r me) (vw : Vw Γ r Γv) (hI : ∀ x, I (b x) = .rt r x := by intro _; rfl) : BS X W hk Γ (.Return (some e) pos :: rest) (me >>= fun x => .ok (b x)) I :=
  pss_imp (pss_cons (ps_ret he) pss_never) fun D σ H ⟨E, F, h, g, q⟩ => by
    obtain ⟨G, g1, g2, g3⟩ := g.look vw
    refine ⟨G, g1, g2, q.bind.post g (fun F' H' x => let ⟨F2, a, _⟩ := g3 F' H' x; ⟨F2, a⟩) fun x px v F' H' ex rr => ?_⟩
    obtain ⟨F2, x2, back⟩ := g3 F' H' ex
    have px : outP X.K X.mg E D (I (b x)) := px
    rw [hI] at px
    exact px v F2 H' (g.e0.trans x2) (rtr_pre g.e0.h (back x v rr))
/-- an owned name is returned -/
theorem bs_retO (i : Nat) {o : Ow} {x : o.ty.den} {n : Str} {b : β} (hi : Γ[i]? = some (.o o x)) (hp : PE X (.Name n p) (tVar i)) (hI : I b = .rt (.o o) x := by rfl) : BS X W hk Γ (.Return (some (.Name n p)) pos :: rest) (.ok b) I :=
  pss_imp (pss_cons (ps_ret hp) pss_never) fun D σ H ⟨E, F, h, g, q⟩ => by
    have q : outP X.K X.mg E D (I b) := q
    rw [hI] at q
    obtain ⟨fps, w⟩ := g.ow
    obtain ⟨ov, e1, v, rfl, r⟩ := w.at_ i _ hi
    exact ⟨v, e1, q v F H g.e0 ⟨fps i, r, w.nd i, w.new i⟩⟩
theorem bs_retN {b : β} (hI : I b = .rt (.d .non) () := by rfl) : BS X W hk Γ (.Return none pos :: rest) (.ok b) I := pss_imp (pss_cons ps_retN pss_never) fun D σ H ⟨E, F, h, g, q⟩ => by
  have q : outP X.K X.mg E D (I b) := q
  rw [hI] at q
  exact q .non F H g.e0 rfl

/-! ## if -/
theorem s1_if {mc : Mx Bool} {mA mB : Mx β} (hc : ET X W Γ c mc) (hA : BS X W hk Γ A mA I) (hB : BS X W hk Γ B' mB I) : S1 X W hk Γ (.If c A B' pos) (mc >>= fun x => if x then mA else mB) I :=
  ps_imp (ps_if hc hA hB) fun D σ H ⟨E, F, h, g, q⟩ => by
    obtain ⟨G, g1, g2, g3⟩ := g.look (r := .d .bool) (.all rfl)
    refine ⟨G, g1, g2, q.bind.post g (fun F' H' x => let ⟨F2, a, _⟩ := g3 F' H' x; ⟨F2, a⟩) fun x px F' H' ex => ?_⟩
    obtain ⟨F2, x2, back⟩ := g3 F' H' ex
    cases x with
    | true => exact ⟨E, F2, h, g.grow x2, px⟩
    | false => exact ⟨E, F2, h, g.grow x2, px⟩
/-- if c: A (which leaves); the rest -/
theorem bs_ifR {mc : Mx Bool} {mA m : Mx β} (hc : ET X W Γ c mc) (hA : BS X W hk Γ A mA I) (hr : BS X W hk Γ rest m I) (hI : ∀ b, (I b).stays = false := by intro _; rfl) : BS X W hk Γ (.If c A [] pos :: rest) (mc >>= fun x => if x then mA else m) I :=
  pss_imp (pss_cons (ps_if hc hA pss_nil) hr) fun D σ H ⟨E, F, h, g, q⟩ => by
    obtain ⟨G, g1, g2, g3⟩ := g.look (r := .d .bool) (.all rfl)
    refine ⟨G, g1, g2, q.bind.post g (fun F' H' x => let ⟨F2, a, _⟩ := g3 F' H' x; ⟨F2, a⟩) fun x px F' H' ex => ?_⟩
    obtain ⟨F2, x2, back⟩ := g3 F' H' ex
    cases x with
    | true =>
      refine ⟨E, F2, h, g.grow x2, postS.mono px fun b qb => ?_⟩
      have hx := hI b
      cases e : I b with
      | nx Γ => rw [e] at hx; cases hx
      | rt r y => rw [e] at qb; exact qb
      | bk Γ => rw [e] at qb; exact qb
      | ct Γ => rw [e] at qb; exact qb
    | false => exact ⟨E, F2, h, g.grow x2, px⟩
end
end Gm
set_option Elab.async false
set_option linter.all false
set_option maxRecDepth 100000
set_option maxHeartbeats 4000000
namespace Gm
open PySem PySem.Spec L2
open PyProof.Rows (envOfC)

/-! ## loops -/
def loopS {S α : Type} : List α → S → (S → α → Mx S) → Mx S
  | [], s, _ => .ok s
  | x :: r, s, f => f s x >>= fun s' => loopS r s' f
inductive Lp (S R : Type) where
  | go (s : S) | brk (s : S) | out (r : R)
def loopF {S R α : Type} : List α → S → (S → α → Mx (Lp S R)) → Mx (Fw S R)
  | [], s, _ => .ok (.go s)
  | x :: r, s, f => f s x >>= fun o => match o with
    | .go s' => loopF r s' f
    | .brk s' => .ok (.go s')
    | .out q => .ok (.out q)
def whileS {S : Type} : Nat → S → (S → Mx Bool) → (S → Mx S) → Mx S
  | 0, _, _, _ => .no
  | n + 1, s, c, f => c s >>= fun b => if b then f s >>= fun s' => whileS n s' c f else .ok s
def whileF {S R : Type} : Nat → S → (S → Mx Bool) → (S → Mx (Lp S R)) → Mx (Fw S R)
  | 0, _, _, _ => .no
  | n + 1, s, c, f => c s >>= fun b => if b then f s >>= fun o => (match o with
    | .go s' => whileF n s' c f
    | .brk s' => .ok (.go s')
    | .out q => .ok (.out q)) else .ok (.go s)
def lpo {S R : Type} (G : S → Ctx) (O : R → Out) : Lp S R → Out
  | .go s => .nx (G s)
  | .brk s => .bk (G s)
  | .out r => O r
def Out.isRt : Out → Bool
  | .rt _ _ => true
  | _ => false
section
variable {mg : Str → Option Value} {K : PySem.W.Frag} {W : WX} {E : Ent} {α β : Type} {Γ Γ' : Ctx} {σ : L2.St} {F H F' H' F2 H2 : Hp}
/-- the entry with more frozen -/
abbrev Ent.up (E : Ent) (F2 : Hp) : Ent := { E with F0 := F2 }
theorem ext_up (x : Ext E.F0 E.B F2 H2) (y : Ext F2 E.B F H) : Ext E.F0 E.B F H := ⟨x.f.trans y.f, y.h, y.i, fun p hp hf => y.n p hp (x.n p hp hf)⟩
theorem SG.down (g : SG K mg (E.up F2) Γ σ F H) (x : Ext E.F0 E.B F2 H2) : SG K mg E Γ σ F H := ⟨ext_up x g.e0, g.kp, g.ow⟩
theorem SG.up (g : SG K mg E Γ σ F H) : SG K mg (E.up F) Γ σ F H := ⟨⟨Same.refl _, g.e0.h, g.e0.i, fun p _ q => q⟩, g.kp, g.ow⟩
theorem postS.up {m : Mx α} {P P' : α → Prop} (x : Ext E.F0 E.B F2 H2) (h : postS mg W E m P) (i : ∀ a, P a → P' a) : postS mg W (E.up F2) m P' := by
  cases m with
  | ok a => exact i a h
  | ex e => exact fun cls d σ F H y k r => h cls d σ F H (ext_up x y) k r
  | no => exact h
end
def tIS (mg : Str → Option Value) (K : PySem.W.Frag) (W : WX) (hk : List Nat) (Γ : Ctx) (t : Ty) (m : Mx (List t.den)) : TI := fun σ H R => ∃ E F, E.hk = hk ∧ SG K mg E Γ σ F H ∧
  postS mg W E m fun xs => ∀ F' H' J, Ext F H F' H' → Wlk K mg t J xs F' → R J H'
abbrev IS (X : Cx) (W : WX) (hk : List Nat) (Γ : Ctx) (tg iter : Expr) (t : Ty) (m : Mx (List t.den)) : Prop := PI X tg iter (tIS X.mg X.K W hk Γ t m)
/-- what is walked, whatever is frozen -/
def tIR (mg : Str → Option Value) (K : PySem.W.Frag) (W : WX) (Γ : Ctx) (t : Ty) (m : Mx (List t.den)) : TI := fun σ H R => ∃ F, Same F H ∧ SD K mg Γ σ F ∧
  post mg W σ m F H fun xs => ∀ F' H' J, Ext F H F' H' → (∀ G, Wlk K mg t J xs G) → R J H'
abbrev EIR (X : Cx) (W : WX) (Γ : Ctx) (tg iter : Expr) (t : Ty) (m : Mx (List t.den)) : Prop := PI X tg iter (tIR X.mg X.K W Γ t m)
section
variable {X : Cx} {W : WX} {hk : List Nat} {Γ Γ' Γv : Ctx} {st : Stmt} {rest body : List Stmt} {e c tg iter a b : Expr} {pos p : Pos} {β γ : Type} {r : Rt} {t : Ty} {I : β → Out}
theorem is_hid {m : Mx (List t.den)} (h : EI X W (hide Γ) tg iter t m) : IS X W hk Γ tg iter t m := pi_imp h fun σ H R ⟨E, F, hh, g, q⟩ => ⟨F, g.e0.i, g.sd_hide, q.post g (fun F' H' x => ⟨F', x⟩) fun xs k => k⟩
theorem is_ran {m : Mx (List t.den)} (h : EIR X W Γ tg iter t m) : IS X W hk Γ tg iter t m := pi_imp h fun σ H R ⟨E, F, hh, g, q⟩ => by
  obtain ⟨G, g1, g2, g3⟩ := g.look (r := .d .bool) (.all rfl)
  refine ⟨G, g1, g2, q.post g (fun F' H' x => let ⟨F2, a, _⟩ := g3 F' H' x; ⟨F2, a⟩) fun xs k F' H' J x w => ?_⟩
  obtain ⟨F2, x2, _⟩ := g3 F' H' x
  exact k F2 H' J x2 (w F2)
theorem r_ran1 {m : Mx Int} (hg : Gl X "range") (hm : X.mg "range" = none) (ha : EM X W Γ a .int m) (hs : starEach [a] X.env = [(false, eval a X.env)] := by rfl) : EIR X W Γ tg (.Call (.Name "range" p) [a] [] pos) .int (m >>= fun n => ofO (ranO 0 n)) :=
  pi_imp (pi_range1 hg hm (ea_one ha hs) hs) fun σ H R ⟨F, s, d, q⟩ => ⟨F, s, d, q.bind.mono fun x px vs F1 H1 e1 r1 => by
    cases (show vs = _ from r1)
    unfold ranO at px
    split at px
    · rename_i h
      refine ⟨x, rfl, h.2.2.1, h.2.2.2, ?_⟩
      refine px F1 H1 _ e1 fun G => ?_
      have := wlk_ran (K := X.K) (mg := X.mg) (lo := 0) (hi := x) G
      rw [Int.sub_zero] at this
      exact this
    · exact px.elim⟩
theorem r_ran2 {m1 m2 : Mx Int} (hg : Gl X "range") (hm : X.mg "range" = none) (ha : EM X W Γ a .int m1) (hb : EM X W Γ b .int m2) (hs : starEach [a, b] X.env = [(false, eval a X.env), (false, eval b X.env)] := by rfl) (hs2 : starEach [b] X.env = [(false, eval b X.env)] := by rfl) :
    EIR X W Γ tg (.Call (.Name "range" p) [a, b] [] pos) .int (m1 >>= fun l => m2 >>= fun n => ofO (ranO l n)) :=
  pi_imp (pi_range2 hg hm (pa_cons ha (pa_cons hb pa_nil hs2) (by rw [hs, hs2])) hs hs2) fun σ H R ⟨F, s, d, q⟩ => ⟨F, s, d, q.bind.mono fun x px v F1 H1 e1 r1 => ⟨F1, e1.i, d.mono e1.f, post.ext e1 px.bind fun y py w F2 H2 e2 r2 => by
    cases (List.cons.inj (show [v] = _ from r1)).1
    cases (List.cons.inj (show [w] = _ from r2)).1
    unfold ranO at py
    split at py
    · rename_i h
      exact ⟨x, y, rfl, ⟨h.1, h.2.1, h.2.2.1, h.2.2.2⟩, py F2 H2 _ (e1.trans e2) fun G => wlk_ran G⟩
    · exact py.elim⟩⟩
/-- for, a turn of which always goes on -/
theorem s1_for {S : Type} {G : S → Ctx} {f : S → t.den → Mx S} {s0 : S} {mi : Mx (List t.den)} {is : List Nat} {T : t.den → List Slot} (hp : PassesOwn (model X.prog X.w) X.A X.env X.xe) (hc : X.calm = true) (hi : IS X W hk Γ tg iter t mi) (hg : GT X tg t is T)
    (hb : ∀ s x, BS X W hk (setL (G s) is (T x)) body (f s x) (fun s' => .nx (G s'))) (h0 : Wk (G s0) Γ) (hix : ∀ s, ∀ i ∈ is, i < (G s).length ∧ i ∉ hk := by intro _; decide) (hs : ∀ x, foldedSetIterable iter X.env x = pure x := by intro _; rfl) :
    S1 X W hk Γ (.For tg iter body [] pos) (mi >>= fun xs => loopS xs s0 f) (fun s => .nx (G s)) :=
  have hb' : PSs X body (fun D σ H => ∃ s x, tS X.K X.mg W hk (setL (G s) is (T x)) (f s x) (fun s' => .nx (G s')) D σ H) := ⟨fun pins σ1 σ H D J ⟨s, x, q⟩ => (hb s x).run pins σ1 σ H D J q⟩
  ps_imp (ps_for hp hc hi hg hb' hs) fun D σ H ⟨E, F, hh, g, q⟩ => by
    refine ⟨E, F, hh, g, q.bind.mono fun xs pxs F2 H2 J ex w => ?_⟩
    have xe : Ext E.F0 E.B F2 H2 := g.e0.trans ex
    refine ⟨fun i m σ' H' => i ≤ xs.length ∧ m = xs.length - i ∧ ∃ s F', SG X.K X.mg (E.up F2) (G s) σ' F' H' ∧ postS X.mg W E (loopS (xs.drop i) s f) (fun s => outP X.K X.mg E D (.nx (G s))), ⟨xs.length, Nat.zero_le _, by simp, s0, F2, ((g.grow ex).weak h0).up, pxs⟩, ?_⟩
    rintro i m σ' H' ⟨hil, rfl, s, F', g', q'⟩
    by_cases hlt : i < xs.length
    · refine .inr ⟨w.go i H' (g'.e0.f.trans g'.e0.i) hlt, fun σ'' H'' => ∃ m', m' < xs.length - i ∧ (i + 1 ≤ xs.length ∧ m' = xs.length - (i + 1) ∧ ∃ s F', SG X.K X.mg (E.up F2) (G s) σ'' F' H'' ∧ postS X.mg W E (loopS (xs.drop (i + 1)) s f) (fun s => outP X.K X.mg E D (.nx (G s)))), fun _ _ z => z, fun v H3 y => ?_⟩
      obtain ⟨x, hx, kx⟩ := w.yld i H' v H3 (g'.e0.f.trans g'.e0.i) hlt y
      obtain ⟨G1, x1, rx⟩ := kx F' g'.e0.f g'.e0.i
      rw [List.drop_eq_getElem_cons hlt] at q'
      have hxx : xs[i] = x := by rw [List.getElem?_eq_getElem hlt] at hx; exact Option.some.inj hx
      rw [hxx] at q'
      refine ⟨x, G1, x1.i, rx, fun ws hl hbd => ⟨s, x, E.up F2, G1, hh, ?_, ?_⟩⟩
      · exact SG.setL (is := is) (g'.grow x1) hbd fun j hj => by
          have := hix s j hj
          exact ⟨this.1, by show j ∉ E.hk; rw [hh]; exact this.2⟩
      · exact postS.up xe (postS.bind (k := fun s' => loopS (xs.drop (i + 1)) s' f) q') fun s' qs σ4 F4 H4 g4 => ⟨xs.length - (i + 1), by omega, by omega, rfl, s', F4, g4, qs⟩
    · have hi' : i = xs.length := by omega
      subst hi'
      refine .inl ⟨w.stop _ H' (g'.e0.f.trans g'.e0.i) (Nat.le_refl _), ?_⟩
      rw [List.drop_length] at q'
      exact q' σ' F' H' (g'.down xe)
/-- for, whose turns may leave -/
theorem s1_forF {S R : Type} {G : S → Ctx} {O : R → Out} {f : S → t.den → Mx (Lp S R)} {s0 : S} {mi : Mx (List t.den)} {is : List Nat} {T : t.den → List Slot} (hp : PassesOwn (model X.prog X.w) X.A X.env X.xe) (hc : X.calm = true) (hi : IS X W hk Γ tg iter t mi) (hg : GT X tg t is T)
    (hb : ∀ s x, BS X W hk (setL (G s) is (T x)) body (f s x) (lpo G O)) (h0 : Wk (G s0) Γ) (hO : ∀ r, (O r).isRt = true := by intro _; rfl) (hix : ∀ s, ∀ i ∈ is, i < (G s).length ∧ i ∉ hk := by intro _; decide) (hs : ∀ x, foldedSetIterable iter X.env x = pure x := by intro _; rfl) :
    S1 X W hk Γ (.For tg iter body [] pos) (mi >>= fun xs => loopF xs s0 f) (fwo G O) :=
  have hb' : PSs X body (fun D σ H => ∃ s x, tS X.K X.mg W hk (setL (G s) is (T x)) (f s x) (lpo G O) D σ H) := ⟨fun pins σ1 σ H D J ⟨s, x, q⟩ => (hb s x).run pins σ1 σ H D J q⟩
  ps_imp (ps_for hp hc hi hg hb' hs) fun D σ H ⟨E, F, hh, g, q⟩ => by
    refine ⟨E, F, hh, g, q.bind.mono fun xs pxs F2 H2 J ex w => ?_⟩
    have xe : Ext E.F0 E.B F2 H2 := g.e0.trans ex
    refine ⟨fun i m σ' H' => i ≤ xs.length ∧ m = xs.length - i ∧ ∃ s F', SG X.K X.mg (E.up F2) (G s) σ' F' H' ∧ postS X.mg W E (loopF (xs.drop i) s f) (fun s => outP X.K X.mg E D (fwo G O s)), ⟨xs.length, Nat.zero_le _, by simp, s0, F2, ((g.grow ex).weak h0).up, pxs⟩, ?_⟩
    rintro i m σ' H' ⟨hil, rfl, s, F', g', q'⟩
    by_cases hlt : i < xs.length
    · refine .inr ⟨w.go i H' (g'.e0.f.trans g'.e0.i) hlt, fun σ'' H'' => ∃ m', m' < xs.length - i ∧ (i + 1 ≤ xs.length ∧ m' = xs.length - (i + 1) ∧ ∃ s F', SG X.K X.mg (E.up F2) (G s) σ'' F' H'' ∧ postS X.mg W E (loopF (xs.drop (i + 1)) s f) (fun s => outP X.K X.mg E D (fwo G O s))), fun _ _ z => z, fun v H3 y => ?_⟩
      obtain ⟨x, hx, kx⟩ := w.yld i H' v H3 (g'.e0.f.trans g'.e0.i) hlt y
      obtain ⟨G1, x1, rx⟩ := kx F' g'.e0.f g'.e0.i
      rw [List.drop_eq_getElem_cons hlt] at q'
      have hxx : xs[i] = x := by rw [List.getElem?_eq_getElem hlt] at hx; exact Option.some.inj hx
      rw [hxx] at q'
      refine ⟨x, G1, x1.i, rx, fun ws hl hbd => ⟨s, x, E.up F2, G1, hh, ?_, ?_⟩⟩
      · exact SG.setL (is := is) (g'.grow x1) hbd fun j hj => by
          have := hix s j hj
          exact ⟨this.1, by show j ∉ E.hk; rw [hh]; exact this.2⟩
      · refine postS.up xe (postS.bind (m := f s x) q') fun o qs => ?_
        cases o with
        | go s' => exact fun σ4 F4 H4 g4 => ⟨xs.length - (i + 1), by omega, by omega, rfl, s', F4, g4, qs⟩
        | brk s' => exact fun σ4 F4 H4 g4 => qs σ4 F4 H4 (g4.down xe)
        | out z =>
          have qs : outP X.K X.mg E D (O z) := qs
          have hz := hO z
          show outP X.K X.mg (E.up F2) _ (O z)
          cases e : O z with
          | nx _ => rw [e] at hz; cases hz
          | bk _ => rw [e] at hz; cases hz
          | ct _ => rw [e] at hz; cases hz
          | rt r y => rw [e] at qs; exact fun v F H y2 r2 => qs v F H (ext_up xe y2) r2
    · have hi' : i = xs.length := by omega
      subst hi'
      refine .inl ⟨w.stop _ H' (g'.e0.f.trans g'.e0.i) (Nat.le_refl _), ?_⟩
      rw [List.drop_length] at q'
      exact q' σ' F' H' (g'.down xe)
/-- while -/
theorem s1_while {S : Type} {G : S → Ctx} {mc : S → Mx Bool} {f : S → Mx S} {s0 : S} (n : Nat) (hp : PassesOwn (model X.prog X.w) X.A X.env X.xe) (hc : ∀ s, ET X W (G s) c (mc s)) (hb : ∀ s, BS X W hk (G s) body (f s) (fun s' => .nx (G s'))) (h0 : Wk (G s0) Γ) :
    S1 X W hk Γ (.While c body [] pos) (whileS n s0 mc f) (fun s => .nx (G s)) :=
  have hc' : PT X c (fun σ H Q => ∃ s, tT X.mg X.K W (G s) (mc s) σ H Q) := ⟨fun pins s1 σ H Q J ⟨s, q⟩ => (hc s).run pins s1 σ H Q J q⟩
  have hb' : PSs X body (fun D σ H => ∃ s, tS X.K X.mg W hk (G s) (f s) (fun s' => .nx (G s')) D σ H) := ⟨fun pins s1 σ H D J ⟨s, q⟩ => (hb s).run pins s1 σ H D J q⟩
  ps_imp (ps_while hp hc' hb') fun D σ H ⟨E, F, hh, g, q⟩ => by
    refine ⟨fun m σ' H' => ∃ s F', SG X.K X.mg E (G s) σ' F' H' ∧ postS X.mg W E (whileS m s mc f) (fun s => outP X.K X.mg E D (.nx (G s))), ⟨n, s0, F, g.weak h0, q⟩, ?_⟩
    rintro m σ' H' ⟨s, F', g', q'⟩
    cases m with
    | zero => exact q'.elim
    | succ m =>
      obtain ⟨G0, g1, g2, g3⟩ := g'.look (r := .d .bool) (.all rfl)
      refine ⟨s, G0, g1, g2, (postS.bind q').post g' (fun F' H' x => let ⟨F2, a, _⟩ := g3 F' H' x; ⟨F2, a⟩) fun b pb F3 H3 ex => ?_⟩
      obtain ⟨F2, x2, _⟩ := g3 F3 H3 ex
      cases b with
      | true =>
        rw [if_pos rfl]
        exact ⟨fun σ'' H'' => ∃ m', m' < m + 1 ∧ ∃ s F', SG X.K X.mg E (G s) σ'' F' H'' ∧ postS X.mg W E (whileS m' s mc f) (fun s => outP X.K X.mg E D (.nx (G s))), fun _ _ z => z, s, E, F2, hh, g'.grow x2,
          postS.mono (postS.bind pb) fun s' qs σ4 F4 H4 g4 => ⟨m, Nat.lt_succ_self m, s', F4, g4, qs⟩⟩
      | false =>
        rw [if_neg Bool.false_ne_true]
        exact pb σ' F2 H3 (g'.grow x2)
theorem s1_whileF {S R : Type} {G : S → Ctx} {O : R → Out} {mc : S → Mx Bool} {f : S → Mx (Lp S R)} {s0 : S} (n : Nat) (hp : PassesOwn (model X.prog X.w) X.A X.env X.xe) (hc : ∀ s, ET X W (G s) c (mc s)) (hb : ∀ s, BS X W hk (G s) body (f s) (lpo G O)) (h0 : Wk (G s0) Γ) (hO : ∀ r, (O r).isRt = true := by intro _; rfl) :
    S1 X W hk Γ (.While c body [] pos) (whileF n s0 mc f) (fwo G O) :=
  have hc' : PT X c (fun σ H Q => ∃ s, tT X.mg X.K W (G s) (mc s) σ H Q) := ⟨fun pins s1 σ H Q J ⟨s, q⟩ => (hc s).run pins s1 σ H Q J q⟩
  have hb' : PSs X body (fun D σ H => ∃ s, tS X.K X.mg W hk (G s) (f s) (lpo G O) D σ H) := ⟨fun pins s1 σ H D J ⟨s, q⟩ => (hb s).run pins s1 σ H D J q⟩
  ps_imp (ps_while hp hc' hb') fun D σ H ⟨E, F, hh, g, q⟩ => by
    refine ⟨fun m σ' H' => ∃ s F', SG X.K X.mg E (G s) σ' F' H' ∧ postS X.mg W E (whileF m s mc f) (fun s => outP X.K X.mg E D (fwo G O s)), ⟨n, s0, F, g.weak h0, q⟩, ?_⟩
    rintro m σ' H' ⟨s, F', g', q'⟩
    cases m with
    | zero => exact q'.elim
    | succ m =>
      obtain ⟨G0, g1, g2, g3⟩ := g'.look (r := .d .bool) (.all rfl)
      refine ⟨s, G0, g1, g2, (postS.bind q').post g' (fun F' H' x => let ⟨F2, a, _⟩ := g3 F' H' x; ⟨F2, a⟩) fun b pb F3 H3 ex => ?_⟩
      obtain ⟨F2, x2, _⟩ := g3 F3 H3 ex
      cases b with
      | true =>
        rw [if_pos rfl]
        refine ⟨fun σ'' H'' => ∃ m', m' < m + 1 ∧ ∃ s F', SG X.K X.mg E (G s) σ'' F' H'' ∧ postS X.mg W E (whileF m' s mc f) (fun s => outP X.K X.mg E D (fwo G O s)), fun _ _ z => z, s, E, F2, hh, g'.grow x2,
          postS.mono (postS.bind pb) fun o qs => ?_⟩
        cases o with
        | go s' => exact fun σ4 F4 H4 g4 => ⟨m, Nat.lt_succ_self m, s', F4, g4, qs⟩
        | brk s' => exact fun σ4 F4 H4 g4 => qs σ4 F4 H4 g4
        | out z =>
          have qs : outP X.K X.mg E D (O z) := qs
          have hz := hO z
          show outP X.K X.mg E _ (O z)
          cases e : O z with
          | nx _ => rw [e] at hz; cases hz
          | bk _ => rw [e] at hz; cases hz
          | ct _ => rw [e] at hz; cases hz
          | rt r y => rw [e] at qs; exact qs
      | false =>
        rw [if_neg Bool.false_ne_true]
        exact pb σ' F2 H3 (g'.grow x2)
/-! ## an owned list grows -/
def appO {α : Type} (xs : List α) (y : α) : Option (List α) := if xs.length < sizeLine then some (xs ++ [y]) else none
theorem own_lst {K : PySem.W.Frag} {mg : Str → Option Value} {xs : List t.den} {v : V} {F H : Hp} {fp : List Addr} (h : ol K mg (.l (.d t)) xs [v] F H fp) : ∃ q ws, v = .ref q ∧ fp = [q] ∧ H q = some (.lst ws) ∧ all2 (fun y w => rl K mg t y [w] F) xs ws := by
  obtain ⟨q, ws, fps, e1, e2, e3, r⟩ := h
  have hn : ∀ {xs : List t.den} {ws : List V} {fps : List (List Addr)}, all3 (fun x w f => ol K mg (.d t) x [w] F H f) xs ws fps → fps.flatten = [] := by
    intro xs
    induction xs with
    | nil => intro ws fps r; cases ws with
      | nil => cases fps with
        | nil => rfl
        | cons _ _ => exact r.elim
      | cons _ _ => exact r.elim
    | cons x xs ih => intro ws fps r; cases ws with
      | nil => exact r.elim
      | cons w ws => cases fps with
        | nil => exact r.elim
        | cons f fps => rw [List.flatten_cons, ih r.2, r.1.1]; rfl
  exact ⟨q, ws, (List.cons.inj e1).1, by rw [e2, hn r], e3, r.two fun x w f _ z => z.2⟩
/-- a cell of a slot is written -/
theorem SG.write {K : PySem.W.Frag} {mg : Str → Option Value} {E : Ent} {σ : L2.St} {F H : Hp} {i : Nat} {q : Addr} {ws : List V} {xs ys : List t.den} (g : SG K mg E Γ σ F H) (hi : Γ[i]? = some (.o (.l (.d t)) xs)) (hq : σ[i]? = some (some (.ref q))) (r : all2 (fun y w => rl K mg t y [w] F) ys ws) :
    SG K mg E (Γ.set i (.o (.l (.d t)) ys)) σ F (upd H q (.lst ws)) := by
  obtain ⟨e0, kp, fps, w⟩ := g
  obtain ⟨ov, e1, v, rfl, ho⟩ := w.at_ i _ hi
  rw [hq] at e1; cases e1
  obtain ⟨q', zs, e2, e3, e4, r0⟩ := own_lst ho
  cases e2
  have hil : i < Γ.length := (List.getElem?_eq_some_iff.mp hi).1
  have hqi : q ∈ fps i := by rw [e3]; exact List.mem_singleton.mpr rfl
  have nF : F q = none := (w.new i q hqi).1
  have nB : E.B q = none := (w.new i q hqi).2
  have ne : ∀ {b : Addr} {o : HO}, F b = some o → b ≠ q := fun e z => by rw [z, nF] at e; cases e
  have x0 : Ext E.F0 E.B F (upd H q (.lst ws)) := ⟨e0.f, fun b o e => by rw [upd_ne (fun z => by rw [z, nB] at e; cases e)]; exact e0.h _ _ e, fun b o e => by rw [upd_ne (ne e)]; exact e0.i _ _ e, e0.n⟩
  have w1 : Own K mg Γ σ F H E.B fps := w
  -- the other slots
  refine ⟨x0, kp, fps, fun j s e => ?_, fun j e => ?_, w.nd, w.sep, w.new⟩
  · by_cases hj : j = i
    · subst hj
      rw [List.getElem?_set_self hil] at e
      cases e
      exact ⟨_, hq, _, rfl, q, ws, ys.map fun _ => [], rfl, by rw [flat_nil, e3], upd_same, all3.of2 (fun x v z => ⟨rfl, z⟩) r⟩
    · rw [List.getElem?_set_ne (Ne.symm hj)] at e
      obtain ⟨ov, e1, r'⟩ := w.at_ j s e
      exact ⟨ov, e1, so_frame (Same.refl _) (fun a ha => upd_ne fun z => w.sep j i hj a ha (by rw [z]; exact hqi)) r'⟩
  · by_cases hj : j = i
    · subst hj
      rw [List.getElem?_set_self hil] at e; cases e
    · rw [List.getElem?_set_ne (Ne.symm hj)] at e
      exact w.out j e
/-- xs.append(e) -/
theorem bs_app (i : Nat) {xs : List t.den} {me : Mx t.den} {k : List t.den → Mx β} {n : Str} {apos cpos : Pos} (hi : Γ[i]? = some (.o (.l (.d t)) xs)) (hx : PE X (.Name n p) (tVar i)) (he : EM X W Γv e t me) (vw : Vw Γ (.d t) Γv) (hr : ∀ ys, BS X W hk (Γ.set i (.o (.l (.d t)) ys)) rest (k ys) I)
    (hbase : attributeBase (.Name n p) "append" X.env (eval (.Name n p) X.env) = eval (.Name n p) X.env := by rfl) (hfew : ((backTo cpos (starEach [e] X.env)).all (fun x => !x.1) && (backToKw cpos (keywordEach [] X.env)).all (fun x => x.1.isSome) && decide ([e].length + ([] : List Keyword).length + (if ([] : List Keyword).isEmpty then 0 else 1) < 30)) = true := by rfl)
    (hline : (apos.endLine == cpos.line) = true := by rfl) (hs : starEach [e] X.env = (false, eval e X.env) :: starEach [] X.env := by rfl) (hpl : (backTo cpos (starEach [] X.env)).any (·.1) = false := by rfl) :
    BS X W hk Γ (.Expr (.Call (.Attribute (.Name n p) "append" apos) [e] [] cpos) pos :: rest) (me >>= fun y => ofO (appO xs y) >>= k) I :=
  have hr' : PSs X rest (fun D σ H => ∃ ys, tS X.K X.mg W hk (Γ.set i (.o (.l (.d t)) ys)) (k ys) I D σ H) := ⟨fun pins s σ H D J ⟨x, q⟩ => (hr x).run pins s σ H D J q⟩
  pss_imp (pss_cons (ps_expr (pe_bm PySem.F.plainAttrs_list PySem.F.slot_list_append PySem.F.type_list_append mt_append hx (pa_cons he pa_nil hs) hbase hfew hline hs hpl)) hr') fun D σ H ⟨E, F, h, g, q⟩ => by
    obtain ⟨fps, w⟩ := g.ow
    obtain ⟨ov, e1, v, rfl, ho⟩ := w.at_ i _ hi
    obtain ⟨a, ws, rfl, e3, e4, rr⟩ := own_lst ho
    refine ⟨.ref a, e1, .inl ⟨rfl, ws, SqL.of e4⟩, ?_⟩
    obtain ⟨G, g1, g2, g3⟩ := g.look vw
    refine ⟨G, g1, g2, q.bind.post g (fun F' H' x => let ⟨F2, a, _⟩ := g3 F' H' x; ⟨F2, a⟩) fun y py u F' H' ex ru => ?_⟩
    obtain ⟨F2, x2, back⟩ := g3 F' H' ex
    have ru2 : rl X.K X.mg t y [u] F2 := back y u ru
    unfold appO at py
    by_cases hl : xs.length < sizeLine
    · rw [if_pos hl] at py
      refine ⟨a, ws, u, rfl, rfl, x2.h _ _ e4, by rw [← rr.len]; exact hl, xs ++ [y], E, F2, h, ?_, py⟩
      exact (g.grow x2).write hi e1 ((rr.imp fun z v q => rl_mono x2.f t z [v] q).app ⟨ru2, True.intro⟩)
    · rw [if_neg hl] at py; exact py.elim
/-! ## calls of the text's defs -/
section
variable (K : PySem.W.Frag) (mg : Str → Option Value)
/-- what a def promises: the arguments' code, the answer's, the mirror -/
def spF (ts : Ty) (r : Rt) (f : ts.den → Mx r.den) : Sp := fun vs H Q E => ∃ F x, Same F H ∧ rl K mg ts x vs F ∧ match f x with
  | .ok y => ∀ v F' H', Ext F H F' H' → rtr K mg r y v H F' H' → Q v H'
  | .ex e => ∀ cls d F' H', Ext F H F' H' → xr mg e cls d H' → E cls d H'
  | .no => False
end
theorem e_call {k : Nat} {f : Addr} {fd : FuncData} {ps : List Str} {ts : Ty} {g : ts.den → Mx r.den} {ma : Mx ts.den} {x : Str} {q : Pos} {es : List Expr} (Fn : FnOk X.prog X.w X.K X.mg X.base (L2.CX X.prog X.w) k f fd ps (spF X.K X.mg ts r g)) (hr : Room k X.A) (hg : Gl X x) (hm : X.mg x = some (.ref f)) (hkp : PySem.W.keepIn X.K (.ref f) = true)
    (hb : Binds X.K fd ps []) (tk : Takes X W) (ha : EA X W Γ (e :: es) ts ma) (hdb : (x == ("__debug__" : Str)) = false := by decide) (he : starEach (e :: es) X.env = (false, eval e X.env) :: starEach es X.env := by rfl) (hpl : (backTo pos (starEach es X.env)).any (·.1) = false := by rfl) :
    ER X W Γ (.Call (.Name x q) (e :: es) [] pos) r (ma >>= g) :=
  pe_imp (pe_callSD Fn hr hg hm hkp hb .nil (fun σ => passAt tk σ) ha hdb he hpl) fun σ H Q ⟨F, s, d, p⟩ => ⟨F, s, d, p.bind.mono fun z pz vs F1 H1 e1 r1 => by
    refine ⟨F1, z, e1.i, by rw [List.append_nil]; exact r1, ?_⟩
    cases hgz : g z with
    | no => rw [hgz] at pz; exact pz
    | ex y => rw [hgz] at pz; exact fun cls d F' H' x r => pz cls d F' H' (e1.trans x) r
    | ok y => rw [hgz] at pz; exact fun v F' H' x r => pz v F' H' (e1.trans x) (rtr_pre e1.h r)⟩
end
/-! ## a def's body -/
def ctxA : (ts : Ty) → ts.den → Ctx
  | .pr t ts, x => .d t x.1 :: ctxA ts x.2
  | _, _ => []
def Ty.args : Ty → Option Nat
  | .pr t ts => if t.sing then ts.args.map (· + 1) else none
  | .nl => some 0
  | _ => none
theorem args_len {K : PySem.W.Frag} {mg : Str → Option Value} {F : Hp} : ∀ {ts : Ty} {n : Nat} {x : ts.den} {vs : List V}, ts.args = some n → rl K mg ts x vs F → vs.length = n ∧ (ctxA ts x).length = n ∧ ∀ (i : Nat) (s : Slot), (ctxA ts x)[i]? = some s → ∃ v : V, vs[i]? = some v ∧ ∃ (t : Ty) (y : t.den), s = Slot.d t y ∧ rl K mg t y [v] F
  | .pr t ts, n, x, vs, h, r => by
    obtain ⟨v, r', rfl, p, q⟩ := r
    have h' : (if t.sing then ts.args.map (· + 1) else none) = some n := h
    by_cases ht : t.sing = true
    · rw [if_pos ht] at h'
      cases e : ts.args with
      | none => rw [e] at h'; cases h'
      | some m =>
        rw [e] at h'
        have hn : m + 1 = n := Option.some.inj h'
        obtain ⟨h1, h2, h3⟩ := args_len (ts := ts) e q
        refine ⟨by rw [List.length_cons, h1, hn], by show (ctxA ts x.2).length + 1 = n; rw [h2, hn], fun i s es => ?_⟩
        cases i with
        | zero => exact ⟨v, rfl, t, x.1, by simpa [ctxA] using es.symm, p⟩
        | succ i => exact h3 i s (by simpa [ctxA] using es)
    · rw [if_neg ht] at h'; cases h'
  | .nl, n, x, vs, h, r => by cases h; rw [show vs = _ from r]; exact ⟨rfl, rfl, fun i s e => by simp [ctxA] at e⟩
def ctx0 (ts : Ty) (x : ts.den) (n : Nat) : Ctx := ctxA ts x ++ List.replicate n .no
theorem sg_start {K : PySem.W.Frag} {mg : Str → Option Value} {F H : Hp} {ts : Ty} {n : Nat} {x : ts.den} {vs : List V} {N : List Str} (hs : Same F H) (ha : ts.args = some n) (r : rl K mg ts x vs F) : SG K mg ⟨F, H, [], L2.start N vs⟩ (ctx0 ts x (N.length - n)) (L2.start N vs) F H := by
  obtain ⟨h1, h2, h3⟩ := args_len ha r
  refine ⟨Ext.refl hs, fun i hi => (nomatch hi), fun _ => [], fun i s e => ?_, fun _ _ => rfl, fun _ => List.nodup_nil, fun _ _ _ a ha => (nomatch ha), fun _ a ha => (nomatch ha)⟩
  unfold ctx0 at e
  unfold L2.start
  by_cases hi : i < n
  · rw [List.getElem?_append_left (by rw [h2]; exact hi)] at e
    obtain ⟨v, e1, t, y, rfl, r'⟩ := h3 i s e
    exact ⟨some v, by rw [List.getElem?_append_left (by rw [List.length_map, h1]; exact hi), List.getElem?_map, e1]; rfl, rfl, v, rfl, r'⟩
  · rw [List.getElem?_append_right (by rw [h2]; omega), h2, List.getElem?_replicate] at e
    split at e
    · rename_i hlt
      cases e
      exact ⟨none, by rw [List.getElem?_append_right (by rw [List.length_map, h1]; omega), List.length_map, h1, List.getElem?_replicate, if_pos hlt], rfl⟩
    · cases e
theorem fn_body {P : Program} {w : World} {K : PySem.W.Frag} {mg : Str → Option Value} {base : Heap} {x qual : Str} {st : Stmt} {f : Addr} {fd : FuncData} {N ps : List Str} {k : Nat} {ts : Ty} {r : Rt} {g : ts.den → Mx r.den} (F : Fun K x qual st f fd) (S : FnScope N ps (defScope st)) (ha : ts.args = some ps.length)
    (hb : ∀ (cdv : Value) (A : Around) (outer : List Env) (s : Shared) (H : Hp) (E : XK), Room k (A.deeper (envOfC qual (defScope st) s.heap.objs.size f cdv)) → Takes (cxOf (L2.CX P w) P w K mg base N qual (defScope st) f cdv A outer s H E) (fun cls d _ H => E cls d H) →
      PassesOwn (model P w) (A.deeper (envOfC qual (defScope st) s.heap.objs.size f cdv)) (envOfC qual (defScope st) s.heap.objs.size f cdv) (cxOf (L2.CX P w) P w K mg base N qual (defScope st) f cdv A outer s H E).xe →
      ∀ x : ts.den, BS (cxOf (L2.CX P w) P w K mg base N qual (defScope st) f cdv A outer s H E) (fun cls d _ H => E cls d H) [] (ctx0 ts x (N.length - ps.length)) (defBody st) (g x) (fun y => .rt r y)) :
    FnOk P w K mg base (L2.CX P w) (k + 1) f fd ps (spF K mg ts r g) := by
  refine F.okX S (fun vs H Q E h => ?_) (fun cdv A outer s H vs Q E hr h => ?_)
  · obtain ⟨G, y, hs, rr, _⟩ := h
    exact (args_len ha rr).1
  · obtain ⟨G, y, hs, rr, q⟩ := h
    refine ⟨_, hb cdv A outer s H E hr (takes_of rfl rfl rfl rfl) (passes_of rfl) y, ⟨G, H, [], L2.start N vs⟩, G, rfl, sg_start hs ha rr, ?_⟩
    cases e : g y with
    | no => rw [e] at q; exact q
    | ex z => rw [e] at q; exact fun cls d σ F' H' x _ r => q cls d F' H' x r
    | ok z => rw [e] at q; exact fun v F' H' x r => q v F' H' x r
end Gm
set_option Elab.async false
set_option linter.all false
set_option maxRecDepth 100000
set_option maxHeartbeats 4000000
namespace Gm
open PySem PySem.Spec L2

theorem okb {α β : Type} (a : α) (f : α → Mx β) : (Mx.ok a >>= f) = f a := id rfl
theorem exb {α β : Type} (e : Exn) (f : α → Mx β) : (Mx.ex e >>= f) = Mx.ex e := id rfl
theorem Mx.ok_right {α : Type} (m : Mx α) : (m >>= fun x => Mx.ok x) = m := by cases m <;> rfl
section
variable {X : Cx} {W : WX} {hk : List Nat} {Γ Γv : Ctx} {st : Stmt} {rest : List Stmt} {β : Type} {r : Rt} {I : β → Out}
theorem b_setL (i : Nat) {me : Mx r.den} {k : r.den → Mx β} (hs : PS X st (tAsg (tR X.mg X.K W Γv r me) (gName i))) (vw : Vw Γ r Γv) (hr : ∀ x, BS X W hk (Γ.set i (slotOf r x)) rest (k x) I) (hb : Nat.ble (i + 1) Γ.length = true) (hn : hk.contains i = false) : BS X W hk Γ (st :: rest) (me >>= k) I :=
  bs_set (i := i) hs vw hr (Nat.le_of_ble_eq_true hb) (fun h => by rw [List.contains_iff_mem.mpr h] at hn; cases hn)
theorem b_setLF (i : Nat) {o : Ow} {me : Mx o.ty.den} {k : o.ty.den → Mx β} (hs : PS X st (tAsg (tR X.mg X.K W Γv (.o o) me) (gName i))) (vw : Vw Γ (.o o) Γv) (hr : ∀ x, BS X W hk (Γ.set i (.d o.ty x)) rest (k x) I) (hb : Nat.ble (i + 1) Γ.length = true) (hn : hk.contains i = false) : BS X W hk Γ (st :: rest) (me >>= k) I :=
  b_setL (X := X) (r := .o o) i hs vw (fun y => bs_freeze i (o := o) (x := y) (List.getElem?_set_self (Nat.le_of_ble_eq_true hb)) (by rw [List.set_set]; exact hr y)) hb hn
end
section
variable {X : Cx} {W : WX} {hk : List Nat} {Γ Γ' Γv : Ctx} {st : Stmt} {rest A B' : List Stmt} {a b e c tg : Expr} {pos p : Pos} {β γ : Type} {r : Rt} {t : Ty} {I : β → Out}
/-- the name in the i-th place -/
theorem vL (i : Nat) {x : Str} (hN : X.N[i]? = some x) (hv : X.env.scope.names.lookup x = some .local) (hd : ((x == ("__debug__" : Str)) || (x == ("__classdict__" : Str))) = false) : PE X (.Name x p) (tVar i) :=
  pv i hN (.inl hv) ((Bool.or_eq_false_iff.mp hd).1) ((Bool.or_eq_false_iff.mp hd).2)
theorem vC (i : Nat) {x : Str} (hN : X.N[i]? = some x) (hv : X.env.scope.names.lookup x = some .cell) (hd : ((x == ("__debug__" : Str)) || (x == ("__classdict__" : Str))) = false) : PE X (.Name x p) (tVar i) :=
  pv i hN (.inr (.inl hv)) ((Bool.or_eq_false_iff.mp hd).1) ((Bool.or_eq_false_iff.mp hd).2)
theorem vF (i : Nat) {x : Str} (hN : X.N[i]? = some x) (hv : X.env.scope.names.lookup x = some .free) (hd : ((x == ("__debug__" : Str)) || (x == ("__classdict__" : Str))) = false) : PE X (.Name x p) (tVar i) :=
  pv i hN (.inr (.inr hv)) ((Bool.or_eq_false_iff.mp hd).1) ((Bool.or_eq_false_iff.mp hd).2)
/-- name = e -/
theorem b_set (i : Nat) {x : Str} {me : Mx r.den} {k : r.den → Mx β} {pos' : Pos} (he : ER X W Γv e r me) (vw : Vw Γ r Γv) (hr : ∀ x, BS X W hk (Γ.set i (slotOf r x)) rest (k x) I) (hN : X.N.Nodup) (hi : X.N[i]? = some x) (hl : Loc X.env.scope x) (hf : X.fn x = true ∨ X.env.scope.names.lookup x = some .local)
    (hb : Nat.ble (i + 1) Γ.length = true) (hn : hk.contains i = false) (hs : swapsWith e (some (.Name x pos')) pos.line X.env = pure false) : BS X W hk Γ (.Assign [.Name x pos'] e pos :: rest) (me >>= k) I :=
  bs_set (i := i) (ps_set hN hi hl he hs hf) vw hr (Nat.le_of_ble_eq_true hb) (fun h => by rw [List.contains_iff_mem.mpr h] at hn; cases hn)
/-- name = a new list, from now on data -/
theorem b_setF (i : Nat) {x : Str} {o : Ow} {me : Mx o.ty.den} {k : o.ty.den → Mx β} {pos' : Pos} (he : EO X W Γv e o me) (vw : Vw Γ (.o o) Γv) (hr : ∀ x, BS X W hk (Γ.set i (.d o.ty x)) rest (k x) I) (hN : X.N.Nodup) (hi : X.N[i]? = some x) (hl : Loc X.env.scope x) (hf : X.fn x = true ∨ X.env.scope.names.lookup x = some .local)
    (hb : Nat.ble (i + 1) Γ.length = true) (hn : hk.contains i = false) (hs : swapsWith e (some (.Name x pos')) pos.line X.env = pure false) : BS X W hk Γ (.Assign [.Name x pos'] e pos :: rest) (me >>= k) I :=
  b_set (r := .o o) i he vw (fun y => bs_freeze i (o := o) (x := y) (List.getElem?_set_self (Nat.le_of_ble_eq_true hb)) (by rw [List.set_set]; exact hr y)) hN hi hl hf hb hn hs
/-- return e at the end of a def -/
theorem b_ret {me : Mx r.den} (he : ER X W Γv e r me) (vw : Vw Γ r Γv) : BS X W hk Γ (.Return (some e) pos :: rest) me (fun y => .rt r y) :=
  bs_cast (bs_ret (b := fun x => x) he vw (fun _ => rfl)) (Mx.ok_right me)
theorem all_ix {is hk : List Nat} {Γ : Ctx} (h : is.all (fun i => Nat.ble (i + 1) Γ.length && !(hk.contains i)) = true) : ∀ i ∈ is, i < Γ.length ∧ i ∉ hk := fun i hi => by
  have := List.all_eq_true.mp h i hi
  rw [Bool.and_eq_true] at this
  exact ⟨Nat.le_of_ble_eq_true this.1, fun z => by rw [List.contains_iff_mem.mpr z] at this; exact absurd this.2 (by simp)⟩
theorem mark_ne (b : Expr) : behindInMarks .NotEq b = false := nomark b
theorem mark_of {op : CmpOp} (b : Expr) (h : (match op with | .In => false | .NotIn => false | _ => true) = true) : behindInMarks op b = false := nomark b (fun z => by subst z; cases h) (fun z => by subst z; cases h)
theorem e_cast {me me' : Mx r.den} (h : ER X W Γ e r me) (q : me = me') : ER X W Γ e r me' := q ▸ h
theorem t_cast {me me' : Mx Bool} (h : ET X W Γ e me) (q : me = me') : ET X W Γ e me' := q ▸ h
theorem ts_cast {es : List Expr} {me me' : Mx Bool} (h : ETs X W Γ es me) (q : me = me') : ETs X W Γ es me' := q ▸ h
theorem bs_brk {b : β} (hI : I b = .bk Γ') (w : Wk Γ' Γ) : BS X W hk Γ (.Break pos :: rest) (.ok b) I := pss_imp (pss_cons ps_break pss_never) fun D σ H ⟨E, F, h, g, q⟩ => by
  have q : outP X.K X.mg E D (I b) := q
  rw [hI] at q
  exact q σ F H (g.weak w)
/-- if c: A (which leaves); the rest -/
theorem bs_ifL {mc : Mx Bool} {mA : Mx γ} {m : Mx β} {A : List Stmt} {I' : γ → Out} (j : γ → β) (hc : ET X W Γ c mc) (hA : BS X W hk Γ A mA I') (hr : BS X W hk Γ rest m I) (hI : ∀ b, I (j b) = I' b) (hs : ∀ b, (I' b).stays = false) : BS X W hk Γ (.If c A [] pos :: rest) (mc >>= fun x => if x then mA >>= fun r => .ok (j r) else m) I :=
  pss_imp (pss_cons (ps_if hc hA pss_nil) hr) fun D σ H ⟨E, F, h, g, q⟩ => by
    obtain ⟨G, g1, g2, g3⟩ := g.look (r := .d .bool) (.all rfl)
    refine ⟨G, g1, g2, q.bind.post g (fun F' H' x => let ⟨F2, a, _⟩ := g3 F' H' x; ⟨F2, a⟩) fun x px F' H' ex => ?_⟩
    obtain ⟨F2, x2, back⟩ := g3 F' H' ex
    cases x with
    | true =>
      refine ⟨E, F2, h, g.grow x2, postS.mono (postS.bind px) fun b qb => ?_⟩
      have qb : outP X.K X.mg E D (I (j b)) := qb
      rw [hI] at qb
      have hx := hs b
      cases e : I' b with
      | nx Γ => rw [e] at hx; cases hx
      | rt r y => rw [e] at qb; exact qb
      | bk Γ => rw [e] at qb; exact qb
      | ct Γ => rw [e] at qb; exact qb
    | false => exact ⟨E, F2, h, g.grow x2, px⟩
/-- how often a while may turn, at most -/
@[irreducible] def fuel : Nat := 1000000
/-- the name of a built-in type -/
theorem n_ty {x : Str} {T' : String} (hg : Gl X x) (hm : X.mg x = none) (hv : bootBuiltins x = some (.type T')) (hn : x ≠ "__name__") (hd : (x == ("__debug__" : Str)) = false) : PE X (.Name x p) (tC (.ty T')) := pe_bltn hg hm hv rfl hn hd
/-- a look at a comprehension's scope -/
def blkC (N : List Str) (sc scope : Scope) (own : List (Str × Nat)) : Bool :=
  decide (scope.kind = .function) && scope.names.all (fun y => decide (scope.names.lookup y.1 = some y.2)) && own.all (fun p => decide (N[p.2]? = some p.1)) &&
  scope.names.all (fun y => !decide (y.2 = .free) || (decide (sc.names.lookup y.1 = some .cell) || decide (sc.names.lookup y.1 = some .free))) &&
  scope.names.all (fun y => !(decide (y.2 = .local) || decide (y.2 = .cell)) || (decide (y.1 ∈ own.map (·.1)) || decide (y.1 ∉ N)))
theorem blk_by (N : List Str) (sc : Scope) {scope : Scope} {own : List (Str × Nat)} (h : blkC N sc scope own = true) : BlkOk N sc scope own := by
  unfold blkC at h
  simp only [Bool.and_eq_true, decide_eq_true_eq, List.all_eq_true, Bool.or_eq_true, Bool.not_eq_true', decide_eq_false_iff_not, Bool.or_eq_false_iff] at h
  obtain ⟨⟨⟨⟨h1, h2⟩, h3⟩, h4⟩, h5⟩ := h
  refine ⟨h1, h2, h3, fun y hy e => (h4 y hy).resolve_left fun z => z e, fun y hy e => (h5 y hy).resolve_left fun z => ?_⟩
  rcases e with e | e
  · exact z.1 e
  · exact z.2 e
/-- a value that may be None, where it is none -/
def getO {α : Type} : Option α → Mx α
  | some x => .ok x
  | none => .no
theorem e_get {m : Mx (Option t.den)} (ha : EM X W Γ a (.opt t) m) : EM X W Γ a t (m >>= getO) := pe_imp ha fun σ H Q ⟨F, s, d, p⟩ => ⟨F, s, d, p.bind.mono fun x px v F1 H1 e1 r1 => by
  cases x with
  | none => exact px.elim
  | some y => exact px v F1 H1 e1 r1.2⟩
end
end Gm
namespace Gm
open PySem PySem.Spec L2
open PyProof.Rows (envOfC)
theorem fn_bodyD {P : Program} {w : World} {K : PySem.W.Frag} {mg : Str → Option Value} {base : Heap} {x qual : Str} {st : Stmt} {f : Addr} {fd : FuncData} {dvs : List V} {kws : List (Str × V)} {N ps : List Str} {k : Nat} {ts : Ty} {r : Rt} {g : ts.den → Mx r.den} (F : FunD K x qual (defArgs st) (defBody st) (defScope st) dvs kws f fd) (S : FnScope N ps (defScope st)) (ha : ts.args = some ps.length)
    (hb : ∀ (cdv : Value) (A : Around) (outer : List Env) (s : Shared) (H : Hp) (E : XK), Room k (A.deeper (envOfC qual (defScope st) s.heap.objs.size f cdv)) → Takes (cxOf (L2.CX P w) P w K mg base N qual (defScope st) f cdv A outer s H E) (fun cls d _ H => E cls d H) →
      PassesOwn (model P w) (A.deeper (envOfC qual (defScope st) s.heap.objs.size f cdv)) (envOfC qual (defScope st) s.heap.objs.size f cdv) (cxOf (L2.CX P w) P w K mg base N qual (defScope st) f cdv A outer s H E).xe →
      ∀ x : ts.den, BS (cxOf (L2.CX P w) P w K mg base N qual (defScope st) f cdv A outer s H E) (fun cls d _ H => E cls d H) [] (ctx0 ts x (N.length - ps.length)) (defBody st) (g x) (fun y => .rt r y)) :
    FnOk P w K mg base (L2.CX P w) (k + 1) f fd ps (spF K mg ts r g) := by
  refine F.ok S (fun vs H Q E h => ?_) (fun cdv A outer s H vs Q E hr h => ?_)
  · obtain ⟨G, y, hs, rr, _⟩ := h
    exact (args_len ha rr).1
  · obtain ⟨G, y, hs, rr, q⟩ := h
    refine ⟨_, hb cdv A outer s H E hr (takes_of rfl rfl rfl rfl) (passes_of rfl) y, ⟨G, H, [], L2.start N vs⟩, G, rfl, sg_start hs ha rr, ?_⟩
    cases e : g y with
    | no => rw [e] at q; exact q
    | ex z => rw [e] at q; exact fun cls d σ F' H' x _ r => q cls d F' H' x r
    | ok z => rw [e] at q; exact fun v F' H' x r => q v F' H' x r
/-- the law's promise -/
def spL (K : PySem.W.Frag) (n : Nat) : Sp := fun vs H Q _ => ∃ (a : Addr) (ns : List Int), vs = [.ref a] ∧ SqL K H a (ns.map V.int) ∧ ns.length ≤ n ∧ ∀ H', Q (.bl true) H'
theorem spL_imp {K : PySem.W.Frag} {mg : Str → Option Value} {f : List Int → Mx Bool} {n : Nat} (h : ∀ ns : List Int, ns.length ≤ n → f ns = .ok true) (vs : List V) (H : Hp) (Q : VK) (E : XK) (q : spL K n vs H Q E) : spF K mg (.pr .scr .nl) (.d .bool) (fun x => f x.1) vs H Q E := by
  obtain ⟨a, ns, rfl, hs, hl, k⟩ := q
  refine ⟨H, (ns, ()), Same.refl H, ⟨.ref a, [], rfl, ⟨a, rfl, hs⟩, rfl⟩, ?_⟩
  simp only [h ns hl]
  intro v F' H' x r
  cases (List.cons.inj (show [v] = _ from r)).1
  exact k H'
theorem cx_end {P : Program} {w : World} (H : Hp) (s : Shared) (e : Value) (s' : Shared) (h : L2.CX P w [] H s (fun _ _ _ => False) e s') : False := by
  obtain ⟨_, _, _, _, _, _, _, _, _, _, _, _, z⟩ := h
  exact z
/-- the end of a law whose promise hangs on the world -/
theorem walk_w {l : PySem.W.OpenLaw} {n k : Nat} {q : Program} {loose : List Str} {XP : (Str → Option Value) → Heap → Prop} {YP : World → Heap → Prop} {d : DefRec} {CX : World → CXT} {x : Str}
    (hn : l.most = some n) (hn2 : n ≤ sizeLine) (hdf : d.params.defaults = []) (hr : Room k PySem.callerA)
    (F : ∀ (w : World) (mg : Str → Option Value) (fa : Addr) (h : Heap), YP w h → h.Ns mainGlobals mg → mg d.name = some (.ref fa) →
      ∃ (K : PySem.W.Frag) (fd : FuncData) (sp : Sp), K.In h ∧ (∀ (s : Shared) (u : Value), BindsTo s fd ⟨[u], []⟩ [(x, u)]) ∧
        (∀ (H : Hp) (a : Addr) (ns : List Int), ns.length ≤ n → Only H → SqL K H a (ns.map V.int) → sp [.ref a] H (fun v _ => v = .bl true) fun _ _ _ => False) ∧
        ∀ base : Heap, K.In base → base.Ns mainGlobals mg → FnOk l.prog w K mg base (CX w) k fa fd [x] sp)
    (hCX : ∀ (w : World) (H : Hp) (s : Shared) (e : Value) (s' : Shared), CX w [] H s (fun _ _ _ => False) e s' → False) :
    PySem.W.WalkO q loose XP YP l.row.toRowW d [] (fun f vs => PySem.call f vs) := by
  refine Att.attach_call hn hdf fun w s0 s1 mg mb fa o pm cd doc a vs ns G Y ho hd hcd hmg hobj hints hlen hg => ?_
  obtain ⟨K, fd, sp, KX, hb, hsp, hF⟩ := F w mg fa _ Y G.T.g hmg
  exact law_call KX G.T.g G.T.b G.T.builtins G.T.nolimit hg hobj hints (Nat.le_trans hlen hn2) hr hF hb (fun H hO hS => hsp H a ns hlen hO hS) fun H e s' => hCX w H s1 e s'
end Gm
set_option Elab.async false
set_option linter.all false
set_option maxRecDepth 100000
set_option maxHeartbeats 1000000
namespace Gm
open PySem PySem.Spec L2

/-! ## plain words: a mirror that ends well -/
def Sat {α : Type} (m : Mx α) (P : α → Prop) : Prop := ∃ x, m = .ok x ∧ P x
section
variable {α β S R : Type}
theorem Sat.ok {x : α} {P : α → Prop} (h : P x) : Sat (.ok x) P := ⟨x, rfl, h⟩
theorem Sat.ok_inv {x : α} {P : α → Prop} (h : Sat (.ok x) P) : P x := by obtain ⟨y, e, h⟩ := h; cases e; exact h
theorem Sat.bind {m : Mx α} {f : α → Mx β} {P : α → Prop} {Q : β → Prop} (h : Sat m P) (k : ∀ x, P x → Sat (f x) Q) : Sat (m >>= f) Q := by
  obtain ⟨x, rfl, h⟩ := h
  exact k x h
theorem Sat.mono {m : Mx α} {P Q : α → Prop} (h : Sat m P) (k : ∀ x, P x → Q x) : Sat m Q := by
  obtain ⟨x, e, h⟩ := h
  exact ⟨x, e, k x h⟩
theorem Sat.eq {m : Mx α} {x : α} (h : Sat m (fun y => y = x)) : m = .ok x := by
  obtain ⟨y, e, rfl⟩ := h
  exact e
theorem Sat.of {m : Mx α} {x : α} {P : α → Prop} (e : m = .ok x) (h : P x) : Sat m P := ⟨x, e, h⟩
theorem Sat.and {m : Mx α} {P Q : α → Prop} (h : Sat m P) (k : Sat m Q) : Sat m (fun x => P x ∧ Q x) := by
  obtain ⟨x, e, h⟩ := h
  obtain ⟨y, e2, k⟩ := k
  rw [e] at e2; cases e2
  exact ⟨x, e, h, k⟩
theorem Sat.ite {c : Prop} [Decidable c] {a b : Mx α} {P : α → Prop} (h1 : c → Sat a P) (h2 : ¬c → Sat b P) : Sat (if c then a else b) P := by
  by_cases h : c
  · rw [if_pos h]; exact h1 h
  · rw [if_neg h]; exact h2 h
theorem ok_okb (x : α) (f : α → Mx β) : (Mx.ok x >>= f) = f x := rfl
theorem Mx.assoc {γ : Type} (m : Mx α) (f : α → Mx β) (g : β → Mx γ) : ((m >>= f) >>= g) = (m >>= fun x => f x >>= g) := by cases m <;> rfl
/-! ### loops -/
theorem sat_loop_aux {I : Nat → S → Prop} {f : S → α → Mx S} : ∀ (xs : List α) (n : Nat) (s0 : S), I n s0 → (∀ i s x, xs[i]? = some x → I (n + i) s → Sat (f s x) (I (n + i + 1))) → Sat (loopS xs s0 f) (I (n + xs.length))
  | [], n, s0, h, _ => ⟨s0, rfl, h⟩
  | x :: xs, n, s0, h, st => by
    refine (st 0 s0 x rfl h).bind fun s1 h1 => ?_
    have := sat_loop_aux xs (n + 1) s1 h1 fun i s y hy hi => by
      have := st (i + 1) s y (by simpa using hy) (by rw [show n + (i + 1) = n + 1 + i by omega]; exact hi)
      rw [show n + 1 + i + 1 = n + (i + 1) + 1 by omega]; exact this
    rw [List.length_cons, show n + (xs.length + 1) = n + 1 + xs.length by omega]
    exact this
theorem sat_loop (I : Nat → S → Prop) {f : S → α → Mx S} {xs : List α} {s0 : S} (h0 : I 0 s0) (st : ∀ i s x, xs[i]? = some x → I i s → Sat (f s x) (I (i + 1))) : Sat (loopS xs s0 f) (I xs.length) := by
  have := sat_loop_aux (I := I) (f := f) xs 0 s0 h0 (by intro i s x e h; rw [Nat.zero_add] at h ⊢; exact st i s x e h)
  rw [Nat.zero_add] at this; exact this
theorem sat_loopF_aux {I : Nat → S → Prop} {Q : Fw S R → Prop} {f : S → α → Mx (Lp S R)} : ∀ (xs : List α) (n : Nat) (s0 : S), I n s0 → (∀ i s x, xs[i]? = some x → I (n + i) s → Sat (f s x) fun o => match o with
      | .go s' => I (n + i + 1) s'
      | .brk s' => Q (.go s')
      | .out r => Q (.out r)) → (∀ s, I (n + xs.length) s → Q (.go s)) → Sat (loopF xs s0 f) Q
  | [], n, s0, h, _, q => ⟨.go s0, rfl, q s0 h⟩
  | x :: xs, n, s0, h, st, q => by
    refine (st 0 s0 x rfl h).bind fun o ho => ?_
    cases o with
    | go s1 =>
      refine sat_loopF_aux xs (n + 1) s1 ho (fun i s y hy hi => ?_) fun s hs => q s (by rw [List.length_cons, show n + (xs.length + 1) = n + 1 + xs.length by omega]; exact hs)
      have := st (i + 1) s y (by simpa using hy) (by rw [show n + (i + 1) = n + 1 + i by omega]; exact hi)
      rw [show n + 1 + i + 1 = n + (i + 1) + 1 by omega]; exact this
    | brk s1 => exact ⟨.go s1, rfl, ho⟩
    | out r => exact ⟨.out r, rfl, ho⟩
theorem sat_loopF (I : Nat → S → Prop) {Q : Fw S R → Prop} {f : S → α → Mx (Lp S R)} {xs : List α} {s0 : S} (h0 : I 0 s0) (st : ∀ i s x, xs[i]? = some x → I i s → Sat (f s x) fun o => match o with
      | .go s' => I (i + 1) s'
      | .brk s' => Q (.go s')
      | .out r => Q (.out r)) (q : ∀ s, I xs.length s → Q (.go s)) : Sat (loopF xs s0 f) Q :=
  sat_loopF_aux (I := I) xs 0 s0 h0 (by intro i s x e h; rw [Nat.zero_add] at h ⊢; exact st i s x e h) (by rw [Nat.zero_add]; exact q)
theorem sat_fwk {m : Mx (Fw S R)} {k : S → Mx β} {j : R → β} {P : Fw S R → Prop} {Q : β → Prop} (h : Sat m P) (h1 : ∀ s, P (.go s) → Sat (k s) Q) (h2 : ∀ r, P (.out r) → Q (j r)) : Sat (m >>= fwk k j) Q := by
  refine h.bind fun o ho => ?_
  cases o with
  | go s => exact h1 s ho
  | out r => exact ⟨j r, rfl, h2 r ho⟩
/-- while: each turn takes from the measure -/
theorem sat_while (I : S → Prop) (μ : S → Nat) {c : S → Mx Bool} {f : S → Mx S} (Q : S → Prop) (st : ∀ s, I s → Sat (c s) fun b => if b = true then Sat (f s) (fun s' => I s' ∧ μ s' < μ s) else Q s) :
    ∀ (n : Nat) (s0 : S), I s0 → μ s0 < n → Sat (whileS n s0 c f) Q
  | 0, s0, _, h => absurd h (Nat.not_lt_zero _)
  | n + 1, s0, h0, h => by
    refine (st s0 h0).bind fun b hb => ?_
    cases b with
    | false => exact ⟨s0, rfl, hb⟩
    | true =>
      rw [if_pos rfl] at hb ⊢
      exact hb.bind fun s1 h1 => sat_while I μ Q st n s1 h1.1 (by omega)
theorem fuel_eq : fuel = 1000000 := by unfold fuel; rfl
/-! ### comprehensions -/
theorem compL_eq {g : α → Option β} {f : α → Mx (Option β)} : ∀ {xs : List α}, (∀ x ∈ xs, f x = .ok (g x)) → compL xs f = .ok (xs.filterMap g)
  | [], _ => rfl
  | x :: xs, h => by
    have e : compL (x :: xs) f = match f x with
      | .ok o => compL xs f >>= fun r => .ok (optC o r)
      | _ => .no := rfl
    rw [e, h x (List.mem_cons_self ..), compL_eq fun y hy => h y (List.mem_cons_of_mem _ hy), List.filterMap_cons]
    cases g x <;> rfl
theorem comp_eq {g : α → Option β} {f : α → Mx (Option β)} {xs : List α} (hl : xs.length ≤ sizeLine) (h : ∀ x ∈ xs, f x = .ok (g x)) : compO xs f = .ok (xs.filterMap g) := by
  unfold compO; rw [if_pos hl]; exact compL_eq h
theorem comp_map {g : α → β} {mt : α → Mx Bool} {me : α → Mx β} {xs : List α} (hl : xs.length ≤ sizeLine) (h : ∀ x ∈ xs, mt x = .ok true ∧ me x = .ok (g x)) : compO xs (compF mt me) = .ok (xs.map g) := by
  rw [comp_eq (g := fun x => some (g x)) hl fun x hx => by unfold compF; rw [(h x hx).1, ok_okb, if_pos rfl, (h x hx).2]; rfl]
  simp
theorem comp_filter {c : α → Bool} {g : α → β} {mt : α → Mx Bool} {me : α → Mx β} {xs : List α} (hl : xs.length ≤ sizeLine) (h : ∀ x ∈ xs, mt x = .ok (c x) ∧ (c x = true → me x = .ok (g x))) : compO xs (compF mt me) = .ok ((xs.filter c).map g) := by
  rw [comp_eq (g := fun x => if c x = true then some (g x) else none) hl fun x hx => by
    unfold compF
    rw [(h x hx).1, ok_okb]
    by_cases hc : c x = true
    · rw [if_pos hc, if_pos hc, (h x hx).2 hc]; rfl
    · rw [if_neg hc, if_neg hc]]
  congr 1
  induction xs with
  | nil => rfl
  | cons x xs ih =>
    rw [List.filterMap_cons, List.filter_cons]
    have ih' := ih (by rw [List.length_cons] at hl; omega) fun y hy => h y (List.mem_cons_of_mem _ hy)
    by_cases hc : c x = true
    · rw [if_pos hc, if_pos hc, List.map_cons]; simp only; rw [ih']
    · rw [if_neg hc, if_neg hc]; simp only; rw [ih']
/-- each element by a promise -/
theorem sat_comp {P : α → β → Prop} {mt : α → Mx Bool} {me : α → Mx β} : ∀ {xs : List α}, xs.length ≤ sizeLine → (∀ x ∈ xs, mt x = .ok true ∧ Sat (me x) (P x)) → Sat (compO xs (compF mt me)) fun ys => ys.length = xs.length ∧ ∀ (i : Nat) (x : α) (y : β), xs[i]? = some x → ys[i]? = some y → P x y := by
  intro xs hl h
  unfold compO; rw [if_pos hl]; clear hl
  induction xs with
  | nil => exact ⟨[], rfl, rfl, fun i x y e => by simp at e⟩
  | cons x xs ih =>
    obtain ⟨h1, y, h2, h3⟩ := h x (List.mem_cons_self ..)
    obtain ⟨ys, h4, h5, h6⟩ := ih fun y hy => h y (List.mem_cons_of_mem _ hy)
    refine ⟨y :: ys, ?_, by rw [List.length_cons, List.length_cons, h5], fun i a b ha hb => ?_⟩
    · have e : compL (x :: xs) (compF mt me) = match compF mt me x with
        | .ok o => compL xs (compF mt me) >>= fun r => .ok (optC o r)
        | _ => .no := rfl
      have e2 : compF mt me x = .ok (some y) := by unfold compF; rw [h1, ok_okb, if_pos rfl, h2]; rfl
      rw [e, e2, h4]; rfl
    · cases i with
      | zero => simp at ha hb; subst ha; subst hb; exact h3
      | succ i => exact h6 i a b (by simpa using ha) (by simpa using hb)
end
/-! ### operators -/
theorem mod_ok {x y : Int} (h : 0 < y) : ofO (modO x y) = .ok (x % y) := by unfold modO; rw [if_pos h]; rfl
theorem div_ok {x y : Int} (h : 0 < y) (h2 : y < 1073741824) : ofO (divO x y) = .ok (x / y) := by unfold divO; rw [if_pos ⟨h, h2⟩]; rfl
theorem mul_l {x y : Int} (h : -18446744073709551616 < x) (h2 : x < 18446744073709551616) : ofO (mulO x y) = .ok (x * y) := by unfold mulO; rw [if_pos (.inl ⟨h, h2⟩)]; rfl
theorem mul_r {x y : Int} (h : -18446744073709551616 < y) (h2 : y < 18446744073709551616) : ofO (mulO x y) = .ok (x * y) := by unfold mulO; rw [if_pos (.inr ⟨h, h2⟩)]; rfl
theorem pow_ok {x y : Int} (h : 0 ≤ y) (h2 : y ≤ 1000000) (h3 : x.natAbs < 18446744073709551616) : ofO (powO x y) = .ok (x ^ y.toNat) := by unfold powO; rw [if_pos ⟨h, h2, h3⟩]; rfl
theorem size_eq : sizeLine = 16777216 := rfl
theorem app_ok {α : Type} {xs : List α} {y : α} (h : xs.length < 16777216) : ofO (appO xs y) = .ok (xs ++ [y]) := by unfold appO; rw [if_pos (by rw [size_eq]; exact h)]; rfl
theorem cat_ok {α : Type} {xs ys : List α} (h : xs.length + ys.length ≤ 16777216) : ofO (catL xs ys) = .ok (xs ++ ys) := by unfold catL; rw [if_pos (by rw [size_eq]; exact h)]; rfl
theorem ran_ok {n : Int} (h : n < 4611686018427387904) (h0 : -4611686018427387904 ≤ n := by omega) : ofO (ranO 0 n) = .ok (iran 0 n) := by unfold ranO; rw [if_pos ⟨by decide, by decide, h0, h⟩]; rfl
theorem ran2_ok {l n : Int} (h1 : -4611686018427387904 ≤ l) (h2 : l < 4611686018427387904) (h3 : -4611686018427387904 ≤ n) (h4 : n < 4611686018427387904) : ofO (ranO l n) = .ok (iran l n) := by unfold ranO; rw [if_pos ⟨h1, h2, h3, h4⟩]; rfl
theorem iran_len {l n : Int} : (iran l n).length = (n - l).toNat := by simp [iran]
theorem iran_get {l n : Int} {i : Nat} {x : Int} (h : (iran l n)[i]? = some x) : x = l + (i : Int) ∧ l ≤ x ∧ x < n := by
  have hi : i < (iran l n).length := (List.getElem?_eq_some_iff.mp h).1
  rw [iran_len] at hi
  simp only [iran, List.getElem?_map, List.getElem?_range hi, Option.map_some, Option.some.injEq] at h
  omega
theorem iran_mem {l n x : Int} (h : x ∈ iran l n) : l ≤ x ∧ x < n := by
  obtain ⟨i, hi⟩ := List.mem_iff_getElem?.mp h
  exact ⟨(iran_get hi).2.1, (iran_get hi).2.2⟩
theorem at_some {α : Type} {xs : List α} {i : Int} (h0 : 0 ≤ i) (h : i < (xs.length : Int)) : ∃ x, xs[i.toNat]? = some x ∧ atI xs i = some x := by
  have hi : i.toNat < xs.length := by omega
  refine ⟨xs[i.toNat], List.getElem?_eq_getElem hi, ?_⟩
  have := atI_nat (xs := xs) (j := i.toNat) (v := xs[i.toNat]) (List.getElem?_eq_getElem hi)
  rw [show ((i.toNat : Nat) : Int) = i by omega] at this
  exact this
theorem sat_at {α : Type} {xs : List α} {i : Int} {P : α → Prop} (h0 : 0 ≤ i) (h : i < (xs.length : Int)) (hP : ∀ x ∈ xs, P x) : Sat (ofO (atI xs i)) P := by
  obtain ⟨x, h1, h2⟩ := at_some h0 h
  rw [h2]
  exact ⟨x, rfl, hP x (List.mem_iff_getElem?.mpr ⟨_, h1⟩)⟩
theorem sat_atI {α : Type} {xs : List α} {i : Int} (h0 : 0 ≤ i) (h : i < (xs.length : Int)) : Sat (ofO (atI xs i)) fun x => xs[i.toNat]? = some x := by
  obtain ⟨x, h1, h2⟩ := at_some h0 h
  rw [h2]
  exact ⟨x, rfl, h1⟩
/-! ### texts -/
theorem len_mk (l : List Nat) : (⟨l.toArray⟩ : Str).length = l.length := by show l.toArray.size = _; simp
theorem slen (s : Str) : s.length = s.cps.toList.length := by show s.cps.size = _; simp
theorem sat_atS {x : Str} {i : Int} (h0 : 0 ≤ i) (h : i < (x.length : Int)) (hl : x.length ≤ 16777216) : Sat (ofO (atS x i)) fun y => ∃ c, x.cps.toList[i.toNat]? = some c ∧ y = ⟨#[c]⟩ := by
  unfold atS
  rw [if_pos (by rw [size_eq]; exact hl)]
  obtain ⟨c, h1, h2⟩ := at_some (xs := x.cps.toList) h0 (by rw [← slen]; exact h)
  rw [h2]
  exact ⟨⟨#[c]⟩, rfl, c, h1, rfl⟩
theorem catS_ok {x y : Str} (h : x.length + y.length ≤ 16777216) : ofO (catO x y) = .ok (x ++ y) := by unfold catO; rw [if_pos (by rw [size_eq]; exact h)]; rfl
theorem len_app (x y : Str) : (x ++ y).length = x.length + y.length := Str.length_append x y
theorem slS_ok {x : Str} {l h : Option Int} (hl : x.length ≤ 16777216) : ofO (slS x l h) = .ok (cutS x l h) := by unfold slS; rw [if_pos (by rw [size_eq]; exact hl)]; rfl
theorem cutS_len (x : Str) (l h : Option Int) : (cutS x l h).length ≤ x.length := by
  unfold cutS
  rw [len_mk, List.length_take, List.length_drop, ← slen]
  omega
theorem lenS_ok {x : Str} (hl : x.length ≤ 16777216) : ofO (lenS x) = .ok (x.length : Int) := by unfold lenS; rw [if_pos (by rw [size_eq]; exact hl)]; rfl
theorem join_ok {a : Str} {ys : List Str} (h : (ys.map (·.length)).sum + ys.length * a.length ≤ 16777216) : ofO (joinO a ys) = .ok (Txt.join a ys) := by unfold joinO; rw [if_pos h]; rfl
theorem sum_le {xs : List Nat} {b : Nat} (h : ∀ x ∈ xs, x ≤ b) : xs.sum ≤ xs.length * b := by
  induction xs with
  | nil => simp
  | cons x xs ih =>
    rw [List.sum_cons, List.length_cons, Nat.add_mul]
    have := h x (List.mem_cons_self ..)
    have := ih fun y hy => h y (List.mem_cons_of_mem _ hy)
    omega
end Gm
set_option Elab.async false
set_option linter.all false
set_option maxRecDepth 100000
set_option maxHeartbeats 4000000
namespace Gm
open PySem PySem.Spec L2

section
variable {X : Cx} {W : WX} {Γ : Ctx} {a b c e tg : Expr} {pos p : Pos} {t : Ty} {F H : Hp} {m1 m2 m3 : Mx Int} {op op' : CmpOp} {p1 p2 : Int → Int → Bool}
/-! ## a op1 b op2 c, of whole numbers -/
theorem chain_read : ∀ σ H Q, tR X.mg X.K W Γ (.d .bool) (m1 >>= fun x => m2 >>= fun y => if p1 x y then m3 >>= fun z => .ok (p2 y z) else .ok false) σ H Q →
    tChain (rI0 fun i j => .bl (p1 i j)) (rI0 fun i j => .bl (p2 i j)) (tR X.mg X.K W Γ (.d .int) m1) (tR X.mg X.K W Γ (.d .int) m2) (tR X.mg X.K W Γ (.d .int) m3) σ H Q := fun σ H Q ⟨F, s, d, q⟩ =>
  ⟨F, s, d, q.bind.mono fun x px v F1 H1 e1 r1 => ⟨F1, e1.i, d.mono e1.f, post.ext e1 px.bind fun y py w F2 H2 e2 r2 => by
    cases (List.cons.inj (show [v] = _ from r1)).1
    cases (List.cons.inj (show [w] = _ from r2)).1
    refine ⟨x, y, rfl, rfl, p1 x y, rfl, ?_⟩
    by_cases hp : p1 x y = true
    · rw [if_pos hp] at py ⊢
      refine ⟨F2, e2.i, d.mono (e1.f.trans e2.f), post.ext (e1.trans e2) py.bind fun z pz u F3 H3 e3 r3 => ?_⟩
      cases (List.cons.inj (show [u] = _ from r3)).1
      exact ⟨y, z, rfl, rfl, pz _ F3 H3 ((e1.trans e2).trans e3) rfl⟩
    · rw [if_neg hp] at py ⊢
      exact py _ F2 H2 (e1.trans e2) rfl⟩⟩
theorem e_chain (ho : OpR X (compareOp op) (rI0 fun i j => .bl (p1 i j))) (ho' : OpR X (compareOp op') (rI0 fun i j => .bl (p2 i j))) (hm : lastMarks [op, op'] [b, c] = false) (ha : EM X W Γ a .int m1) (hb : EM X W Γ b .int m2) (hc : EM X W Γ c .int m3) :
    EM X W Γ (.Compare a [op, op'] [b, c] pos) .bool (m1 >>= fun x => m2 >>= fun y => if p1 x y then m3 >>= fun z => .ok (p2 y z) else .ok false) := pe_imp (pe_chain ho ho' ha hb hc hm) chain_read
theorem t_chain (ho : OpR X (compareOp op) (rI0 fun i j => .bl (p1 i j))) (ho' : OpR X (compareOp op') (rI0 fun i j => .bl (p2 i j))) (hm : lastMarks [op, op'] [b, c] = false) (ha : EM X W Γ a .int m1) (hb : EM X W Γ b .int m2) (hc : EM X W Γ c .int m3) :
    ET X W Γ (.Compare a [op, op'] [b, c] pos) (m1 >>= fun x => m2 >>= fun y => if p1 x y then m3 >>= fun z => .ok (p2 y z) else .ok false) := pt_imp (pt_chain ho ho' ha hb hc hm) fun σ H Q ⟨F, s, d, q⟩ =>
  chain_read σ H _ ⟨F, s, d, q.mono fun x px v F1 H1 e1 r1 => by
    cases (List.cons.inj (show [v] = _ from r1)).1
    exact ⟨x, rfl, px F1 H1 e1⟩⟩
/-! ## in -/
def inSO (x z : Str) : Option Bool := match x.cps.toList with
  | [k] => some (decide (k ∈ z.cps.toList))
  | _ => none
theorem inSO_eq {x z : Str} {r : Bool} (h : inSO x z = some r) : ∃ k, x = ⟨#[k]⟩ ∧ r = decide (k ∈ z.cps.toList) := by
  unfold inSO at h
  split at h
  · rename_i k e
    refine ⟨k, ?_, (Option.some.inj h).symm⟩
    obtain ⟨⟨l⟩⟩ := x
    simp at e
    subst e; rfl
  · cases h
theorem c_inS {m1 m2 : Mx Str} (ha : EM X W Γ a .str m1) (hb : EM X W Γ b .str m2) : EC X W Γ .In a b (m1 >>= fun x => m2 >>= fun y => ofO (inSO x y)) := c_op (t1 := .str) (t2 := .str) (g := inSO) op_in_sign (fun x y z e v w F H Q s r1 r2 k => by
  cases (List.cons.inj (show [v] = _ from r1)).1
  cases (List.cons.inj (show [w] = _ from r2)).1
  obtain ⟨q, rfl, rfl⟩ := inSO_eq e
  exact ⟨q, y, rfl, rfl, k⟩) ha hb
theorem c_ninS {m1 m2 : Mx Str} (ha : EM X W Γ a .str m1) (hb : EM X W Γ b .str m2) : EC X W Γ .NotIn a b (m1 >>= fun x => m2 >>= fun y => ofO ((inSO x y).map fun r => !r)) := c_op (t1 := .str) (t2 := .str) (g := fun x y => (inSO x y).map fun r => !r) op_notIn_sign (fun x y z e v w F H Q s r1 r2 k => by
  cases (List.cons.inj (show [v] = _ from r1)).1
  cases (List.cons.inj (show [w] = _ from r2)).1
  cases h : inSO x y with
  | none => rw [h] at e; cases e
  | some r =>
    rw [h] at e
    cases (Option.some.inj e)
    obtain ⟨q, rfl, rfl⟩ := inSO_eq h
    exact ⟨q, y, rfl, rfl, k⟩) ha hb
theorem inV_strs {x : Str} : ∀ {xs : List Str}, inV (.str x) (xs.map V.str) = decide (x ∈ xs)
  | [] => by simp [inV]
  | y :: ys => by
    have ih := inV_strs (x := x) (xs := ys)
    unfold inV at ih ⊢
    rw [List.map_cons, List.any_cons, ih]
    show ((y == x) || decide (x ∈ ys)) = _
    by_cases h : x = y
    · subst h; simp
    · rw [show (y == x) = false from beq_eq_false_iff_ne.mpr (Ne.symm h), Bool.false_or]
      by_cases h2 : x ∈ ys
      · rw [decide_eq_true h2, decide_eq_true (List.mem_cons_of_mem _ h2)]
      · rw [decide_eq_false h2, decide_eq_false fun z => (List.mem_cons.mp z).elim h h2]
theorem inV_ints {x : Int} : ∀ {xs : List Int}, inV (.int x) (xs.map V.int) = decide (x ∈ xs)
  | [] => by simp [inV]
  | y :: ys => by
    have ih := inV_ints (x := x) (xs := ys)
    unfold inV at ih ⊢
    rw [List.map_cons, List.any_cons, ih]
    show ((y == x) || decide (x ∈ ys)) = _
    by_cases h : x = y
    · subst h; simp
    · rw [show (y == x) = false from beq_eq_false_iff_ne.mpr (Ne.symm h), Bool.false_or]
      by_cases h2 : x ∈ ys
      · rw [decide_eq_true h2, decide_eq_true (List.mem_cons_of_mem _ h2)]
      · rw [decide_eq_false h2, decide_eq_false fun z => (List.mem_cons.mp z).elim h h2]
/-- a flat item's code -/
inductive Fi : (t : Ty) → (t.den → V) → Prop
  | str : Fi .str V.str
  | int : Fi .int V.int
theorem fi_all {K : PySem.W.Frag} {mg : Str → Option Value} {f : t.den → V} (hf : Fi t f) {xs : List t.den} {ws : List V} (h : all2 (fun y v => rl K mg t y [v] F) xs ws) : ws = xs.map f ∧ ws.all flatV = true := by
  cases hf with
  | str =>
    refine ⟨all2_strs h, ?_⟩
    rw [all2_strs h, List.all_map]; exact List.all_eq_true.mpr fun _ _ => rfl
  | int =>
    refine ⟨all2_ints h, ?_⟩
    rw [all2_ints h, List.all_map]; exact List.all_eq_true.mpr fun _ _ => rfl
theorem fi_in {f : t.den → V} (hf : Fi t f) [DecidableEq t.den] {x : t.den} {xs : List t.den} : inV (f x) (xs.map f) = decide (x ∈ xs) := by
  cases hf with
  | str => rw [inV_strs]; exact decide_eq_decide.mpr Iff.rfl
  | int => rw [inV_ints]; exact decide_eq_decide.mpr Iff.rfl
theorem fi_one {K : PySem.W.Frag} {mg : Str → Option Value} {f : t.den → V} (hf : Fi t f) {x : t.den} {v : V} (r : rl K mg t x [v] F) : v = f x ∧ flatV v = true := by
  cases hf with
  | str => cases (List.cons.inj (show [v] = _ from r)).1; exact ⟨rfl, rfl⟩
  | int => cases (List.cons.inj (show [v] = _ from r)).1; exact ⟨rfl, rfl⟩
theorem c_inL [DecidableEq t.den] {f : t.den → V} {m1 : Mx t.den} {m2 : Mx (List t.den)} (hf : Fi t f) (ha : EM X W Γ a t m1) (hb : EM X W Γ b (.list t) m2) : EC X W Γ .In a b (m1 >>= fun x => m2 >>= fun y => .ok (decide (x ∈ y))) := c_op (t1 := t) (t2 := .list t) (g := fun x y => some (decide (x ∈ y))) op_in_seq (fun x y z e v w F H Q s r1 r2 k => by
  cases e
  obtain ⟨p, ws, e2, sq, rr⟩ := r2
  cases (List.cons.inj e2).1
  obtain ⟨e3, fl⟩ := fi_all hf rr
  obtain ⟨e4, fv⟩ := fi_one hf r1
  refine ⟨p, ws, rfl, .inl (SqL.of (s _ _ sq)), fv, fl, ?_⟩
  rw [e3, e4, fi_in hf]
  exact k) ha hb
theorem c_ninL [DecidableEq t.den] {f : t.den → V} {m1 : Mx t.den} {m2 : Mx (List t.den)} (hf : Fi t f) (ha : EM X W Γ a t m1) (hb : EM X W Γ b (.list t) m2) : EC X W Γ .NotIn a b (m1 >>= fun x => m2 >>= fun y => .ok (!decide (x ∈ y))) := c_op (t1 := t) (t2 := .list t) (g := fun x y => some (!decide (x ∈ y))) op_notIn_seq (fun x y z e v w F H Q s r1 r2 k => by
  cases e
  obtain ⟨p, ws, e2, sq, rr⟩ := r2
  cases (List.cons.inj e2).1
  obtain ⟨e3, fl⟩ := fi_all hf rr
  obtain ⟨e4, fv⟩ := fi_one hf r1
  refine ⟨p, ws, rfl, .inl (SqL.of (s _ _ sq)), fv, fl, ?_⟩
  rw [e3, e4, fi_in hf]
  exact k) ha hb
theorem c_inT [DecidableEq t.den] {f : t.den → V} {m1 : Mx t.den} {m2 : Mx (List t.den)} (hf : Fi t f) (ha : EM X W Γ a t m1) (hb : EM X W Γ b (.vtup t) m2) : EC X W Γ .In a b (m1 >>= fun x => m2 >>= fun y => .ok (decide (x ∈ y))) := c_op (t1 := t) (t2 := .vtup t) (g := fun x y => some (decide (x ∈ y))) op_in_seq (fun x y z e v w F H Q s r1 r2 k => by
  cases e
  obtain ⟨p, ws, e2, sq, rr⟩ := r2
  cases (List.cons.inj e2).1
  obtain ⟨e3, fl⟩ := fi_all hf rr
  obtain ⟨e4, fv⟩ := fi_one hf r1
  refine ⟨p, ws, rfl, .inr (sqT_same s sq), fv, fl, ?_⟩
  rw [e3, e4, fi_in hf]
  exact k) ha hb
theorem c_ninT [DecidableEq t.den] {f : t.den → V} {m1 : Mx t.den} {m2 : Mx (List t.den)} (hf : Fi t f) (ha : EM X W Γ a t m1) (hb : EM X W Γ b (.vtup t) m2) : EC X W Γ .NotIn a b (m1 >>= fun x => m2 >>= fun y => .ok (!decide (x ∈ y))) := c_op (t1 := t) (t2 := .vtup t) (g := fun x y => some (!decide (x ∈ y))) op_notIn_seq (fun x y z e v w F H Q s r1 r2 k => by
  cases e
  obtain ⟨p, ws, e2, sq, rr⟩ := r2
  cases (List.cons.inj e2).1
  obtain ⟨e3, fl⟩ := fi_all hf rr
  obtain ⟨e4, fv⟩ := fi_one hf r1
  refine ⟨p, ws, rfl, .inr (sqT_same s sq), fv, fl, ?_⟩
  rw [e3, e4, fi_in hf]
  exact k) ha hb
/-! ## a text walked, a list with its places -/
def signs (x : Str) : List Str := x.cps.toList.map fun k => ⟨#[k]⟩
theorem wlk_str {K : PySem.W.Frag} {mg : Str → Option Value} {x : Str} (F : Hp) : Wlk K mg .str (Its x) (signs x) F := by
  have hl : (signs x).length = x.cps.size := by simp [signs]
  refine ⟨fun i H _ h => by rw [hl] at h; exact h, fun i H _ h => by rw [hl] at h; exact h, fun i H v H3 s hi y => ?_⟩
  obtain ⟨rfl, k, hk, rfl⟩ := y
  refine ⟨⟨#[k]⟩, ?_, fun G g1 g2 => ⟨G, Ext.refl g2, rfl⟩⟩
  unfold signs
  rw [List.getElem?_map]
  have e : x.cps.toList[i]? = some k := by simpa using hk
  rw [e]; rfl
theorem i_str {m : Mx Str} (ha : EM X W Γ a .str m) : EI X W Γ tg a .str (m >>= fun x => .ok (signs x)) := pi_imp (pi_str ha) fun σ H R ⟨F, s, d, q⟩ => ⟨F, s, d, q.bind.mono fun x px v F1 H1 e1 r1 => by
  cases (List.cons.inj (show [v] = _ from r1)).1
  exact ⟨x, rfl, px F1 H1 _ e1 (wlk_str F1)⟩⟩
theorem r_str {m : Mx Str} (ha : EM X W Γ a .str m) : EIR X W Γ tg a .str (m >>= fun x => .ok (signs x)) := pi_imp (pi_str ha) fun σ H R ⟨F, s, d, q⟩ => ⟨F, s, d, q.bind.mono fun x px v F1 H1 e1 r1 => by
  cases (List.cons.inj (show [v] = _ from r1)).1
  exact ⟨x, rfl, px F1 H1 _ e1 (fun G => wlk_str G)⟩⟩
def enumL {α : Type} (xs : List α) : List (Int × α) := (List.range xs.length).zipWith (fun (i : Nat) x => ((i : Int), x)) xs
theorem enumL_len {α : Type} {xs : List α} : (enumL xs).length = xs.length := by simp [enumL]
theorem enumL_get {α : Type} {xs : List α} {i : Nat} {x : α} (h : xs[i]? = some x) : (enumL xs)[i]? = some ((i : Int), x) := by
  have hi : i < xs.length := (List.getElem?_eq_some_iff.mp h).1
  unfold enumL
  rw [List.getElem?_zipWith, List.getElem?_range hi, h]
theorem i_enumL {elts : List Expr} {kk : Nat} {tpos : Pos} {m : Mx (List t.den)} (hg : Gl X "enumerate") (hm : X.mg "enumerate" = none) (ha : EM X W Γ a (.list t) m) (ht : t.sing = true) (hs : starEach [a] X.env = [(false, eval a X.env)]) :
    EI X W Γ (.Tuple elts kk tpos) (.Call (.Name "enumerate" p) [a] [] pos) (.tup (.pr .int t)) (m >>= fun xs => .ok (enumL xs)) :=
  pi_imp (pi_enum hg hm (ea_one ha hs) hs) fun σ H R ⟨F, s, d, q⟩ => ⟨F, s, d, q.bind.mono fun x px vs F1 H1 e1 r1 => by
    obtain ⟨l, ws, e, sq, rr⟩ := r1
    refine ⟨l, ws, e, SqL.of (e1.i _ _ sq), px F1 H1 _ e1 ⟨fun i H s hi => ?_, fun i H s hi => ⟨ws, SqL.of (s _ _ sq), by rw [← rr.len, ← enumL_len]; exact hi⟩, fun i H v H3 s hi y => ?_⟩⟩
    · rw [enumL_len] at hi
      obtain ⟨v, h1, _⟩ := rr.get (List.getElem?_eq_getElem hi)
      exact ⟨ws, v, SqL.of (s _ _ sq), h1⟩
    · obtain ⟨T, z, rfl, nT, rfl, f⟩ := y
      obtain ⟨y, h1, h2⟩ := rr.getV (f ws (SqL.of (s _ _ sq)))
      refine ⟨((i : Int), y), enumL_get h1, fun G g1 g2 => ?_⟩
      have e2 := Ext.new (o := .tup [.int (i : Nat), z]) g2 nT
      exact ⟨_, e2, T, _, rfl, SqT.of upd_same, .int (i : Nat), [z], rfl, rfl, rl_mono (g1.trans e2.f) t y [z] h2⟩⟩
end
end Gm
set_option Elab.async false
set_option linter.all false
set_option maxRecDepth 100000
set_option maxHeartbeats 4000000
namespace Gm
open PySem PySem.Spec L2
open PyProof.Rows (envOfC)

/-! ## attributes -/
def fidx : List Str → Str → Option Nat
  | [], _ => none
  | g :: r, f => if f = g then some 0 else (fidx r f).map (· + 1)
theorem lookup_fidx {f : Str} {v : V} : ∀ {ns : List Str} {ws : List V} {n : Nat}, fidx ns f = some n → ws[n]? = some v → (ns.zip ws).lookup f = some v
  | [], _, _, h, _ => nomatch h
  | g :: r, [], _, _, h => by simp at h
  | g :: r, w :: ws, n, h, h2 => by
    have h : (if f = g then some 0 else (fidx r f).map (· + 1)) = some n := h
    rw [List.zip_cons_cons, List.lookup_cons]
    by_cases e : f = g
    · rw [if_pos e] at h
      cases h
      rw [show (f == g) = true from beq_iff_eq.mpr e]
      simpa using h2
    · rw [if_neg e] at h
      rw [show (f == g) = false from beq_eq_false_iff_ne.mpr e]
      cases h3 : fidx r f with
      | none => rw [h3] at h; cases h
      | some m =>
        rw [h3] at h
        cases h
        exact lookup_fidx (ns := r) h3 (by simpa using h2)
theorem putF_new {f : Str} {v : V} : ∀ {ns : List Str} {ws : List V}, fidx ns f = none → ns.length = ws.length → putF f v (ns.zip ws) = (ns ++ [f]).zip (ws ++ [v])
  | [], [], _, _ => rfl
  | [], _ :: _, _, h => by cases h
  | _ :: _, [], _, h => by cases h
  | g :: r, w :: ws, h, hl => by
    have h : (if f = g then some 0 else (fidx r f).map (· + 1)) = none := h
    have e : ¬ f = g := fun e => by rw [if_pos e] at h; cases h
    rw [if_neg e] at h
    have h3 : fidx r f = none := by
      cases h3 : fidx r f with
      | none => rfl
      | some m => rw [h3] at h; cases h
    show putF f v ((g, w) :: r.zip ws) = (g, w) :: (r ++ [f]).zip (ws ++ [v])
    rw [← putF_new h3 (Nat.succ.inj hl)]
    exact if_neg (fun z => e z.symm)
theorem putF_old {f : Str} {v : V} : ∀ {ns : List Str} {ws : List V} {n : Nat}, fidx ns f = some n → ns.length = ws.length → putF f v (ns.zip ws) = ns.zip (ws.set n v)
  | [], _, _, h, _ => nomatch h
  | _ :: _, [], _, _, h => by cases h
  | g :: r, w :: ws, n, h, hl => by
    have h : (if f = g then some 0 else (fidx r f).map (· + 1)) = some n := h
    by_cases e : f = g
    · rw [if_pos e] at h
      cases h
      subst e
      exact if_pos rfl
    · rw [if_neg e] at h
      cases h3 : fidx r f with
      | none => rw [h3] at h; cases h
      | some m =>
        rw [h3] at h
        cases h
        show putF f v ((g, w) :: r.zip ws) = (g, w) :: r.zip (ws.set m v)
        rw [← putF_old h3 (Nat.succ.inj hl)]
        exact if_neg (fun z => e z.symm)
section
variable {X : Cx} {W : WX} {hk : List Nat} {Γ Γ' Γv : Ctx} {st : Stmt} {rest : List Stmt} {a b e : Expr} {es : List Expr} {pos p p' apos : Pos} {β : Type} {r : Rt} {t : Ty} {I : β → Out} {c f : Str} {ns : List Str} {C : Addr} {n : Nat}
theorem e_attr {fs : Ty} {π : fs.den → t.den} {m : Mx fs.den} (hc : X.mg c = some (.ref C)) (cl : Cls X.K C) (na : NoAttr X.K C f) (hi : fidx ns f = some n) (hf : Fl fs n t π) (ha : EM X W Γ a (.ins c ns fs) m) (hb : attributeBase a f X.env (eval a X.env) = eval a X.env) :
    EM X W Γ (.Attribute a f pos) t (m >>= fun x => .ok (π x)) := pe_imp (pe_fld ha hb) fun σ H Q ⟨F, s, d, q⟩ => ⟨F, s, d, q.bind.mono fun x px v F1 H1 e1 r1 => by
  obtain ⟨q, C', dx, ws, e2, mc, h1, hl, rr⟩ := r1
  rw [hc] at mc; cases mc
  cases (List.cons.inj e2).1
  obtain ⟨u, h2, h3⟩ := hf.at_ rr
  exact ⟨q, C, dx, _, u, rfl, e1.i _ _ h1, cl, na, lookup_fidx hi h2, px u F1 H1 e1 h3⟩⟩
end
/-! ## a field more -/
def Ow.snoc : Ow → Ty → Ow
  | .pr a b, t => .pr a (b.snoc t)
  | .nl, t => .pr (.d t) .nl
  | o, _ => o
def snocV : (o : Ow) → (t : Ty) → o.ty.den → t.den → (o.snoc t).ty.den
  | .pr _ b, t, x, v => (x.1, snocV b t x.2 v)
  | .nl, _, _, v => (v, ())
  | .d _, _, x, _ => x
  | .l _, _, x, _ => x
  | .ins _ _ _, _, x, _ => x
def Ow.isCh : Ow → Bool
  | .pr _ b => b.isCh
  | .nl => true
  | _ => false
section
variable {K : PySem.W.Frag} {mg : Str → Option Value} {F H : Hp} {t : Ty}
theorem ol_snoc {v : V} {y : t.den} (rv : rl K mg t y [v] F) : ∀ {o : Ow}, o.isCh = true → ∀ {x : o.ty.den} {ws : List V} {fp : List Addr}, ol K mg o x ws F H fp → ol K mg (o.snoc t) (snocV o t x y) (ws ++ [v]) F H fp
  | .nl, _, x, ws, fp, h => by
    obtain ⟨rfl, rfl⟩ := h
    exact ⟨v, [], [], [], rfl, rfl, ⟨rfl, rv⟩, rfl, rfl⟩
  | .pr a b, hc, x, ws, fp, h => by
    obtain ⟨u, r, f1, f2, rfl, rfl, h1, h2⟩ := h
    exact ⟨u, r ++ [v], f1, f2, rfl, rfl, h1, ol_snoc rv (o := b) hc h2⟩
  | .d _, hc, _, _, _, _ => nomatch hc
  | .l _, hc, _, _, _, _ => nomatch hc
  | .ins _ _ _, hc, _, _, _, _ => nomatch hc
/-- a data field changed -/
inductive Fu : (o : Ow) → Nat → (t : Ty) → (o.ty.den → t.den → o.ty.den) → Prop
  | hd {t : Ty} {b : Ow} : Fu (.pr (.d t) b) 0 t (fun x v => (v, x.2))
  | tl {a b : Ow} {t : Ty} {n : Nat} {u : b.ty.den → t.den → b.ty.den} (h : Fu b n t u) : Fu (.pr a b) (n + 1) t (fun x v => (x.1, u x.2 v))
theorem Fu.ol_ {o : Ow} {n : Nat} {u : o.ty.den → t.den → o.ty.den} (h : Fu o n t u) {v : V} {y : t.den} (rv : rl K mg t y [v] F) : ∀ {x : o.ty.den} {ws : List V} {fp : List Addr}, ol K mg o x ws F H fp → ol K mg o (u x y) (ws.set n v) F H fp := by
  induction h with
  | hd =>
    intro x ws fp q
    obtain ⟨w, r, f1, f2, rfl, rfl, h1, h2⟩ := q
    obtain ⟨rfl, h1⟩ := h1
    exact ⟨v, r, [], f2, rfl, rfl, ⟨rfl, rv⟩, h2⟩
  | tl h ih =>
    intro x ws fp q
    obtain ⟨w, r, f1, f2, rfl, rfl, h1, h2⟩ := q
    exact ⟨w, _, f1, f2, rfl, rfl, h1, ih rv h2⟩
theorem ol_frm {o : Ow} {x : o.ty.den} {ws : List V} {fp : List Addr} {q : Addr} {ob : HO} (h : ol K mg o x ws F H fp) (nq : q ∉ fp) : ol K mg o x ws F (upd H q ob) fp :=
  ol_frame (Same.refl F) o x ws fp (fun a ha => upd_ne fun z => nq (z ▸ ha)) h
/-- what a slot owns is written -/
theorem SG.writeO {E : Ent} {Γ : Ctx} {σ : L2.St} {i : Nat} {o o' : Ow} {x : o.ty.den} {x' : o'.ty.den} {v : V} {q : Addr} {ob : HO} (g : SG K mg E Γ σ F H) (hi : Γ[i]? = some (.o o x)) (hq : σ[i]? = some (some v))
    (k : ∀ fp : List Addr, fp.Nodup → ol K mg o x [v] F H fp → q ∈ fp ∧ ol K mg o' x' [v] F (upd H q ob) fp) : SG K mg E (Γ.set i (.o o' x')) σ F (upd H q ob) := by
  obtain ⟨e0, kp, fps, w⟩ := g
  obtain ⟨ov, e1, v', rfl, ho⟩ := w.at_ i _ hi
  rw [hq] at e1; cases e1
  have hil : i < Γ.length := (List.getElem?_eq_some_iff.mp hi).1
  obtain ⟨hqi, ho'⟩ := k _ (w.nd i) ho
  have nF : F q = none := (w.new i q hqi).1
  have nB : E.B q = none := (w.new i q hqi).2
  refine ⟨⟨e0.f, fun b z eb => ?_, fun b z eb => ?_, e0.n⟩, kp, fps, fun j s ej => ?_, fun j ej => ?_, w.nd, w.sep, w.new⟩
  · rw [upd_ne (fun y => by rw [y, nB] at eb; cases eb)]; exact e0.h _ _ eb
  · rw [upd_ne (fun y => by rw [y, nF] at eb; cases eb)]; exact e0.i _ _ eb
  · by_cases hj : j = i
    · subst hj
      rw [List.getElem?_set_self hil] at ej
      cases ej
      exact ⟨_, hq, _, rfl, ho'⟩
    · rw [List.getElem?_set_ne (Ne.symm hj)] at ej
      obtain ⟨ov, e1, r'⟩ := w.at_ j s ej
      exact ⟨ov, e1, so_frame (Same.refl _) (fun a ha => upd_ne fun z => w.sep j i hj a ha (by rw [z]; exact hqi)) r'⟩
  · by_cases hj : j = i
    · subst hj
      rw [List.getElem?_set_self hil] at ej; cases ej
    · rw [List.getElem?_set_ne (Ne.symm hj)] at ej
      exact w.out j ej
end
section
variable {X : Cx} {W : WX} {hk : List Nat} {Γ Γ' Γv : Ctx} {st : Stmt} {rest : List Stmt} {a b e : Expr} {es : List Expr} {pos p p' apos : Pos} {β : Type} {r : Rt} {t : Ty} {I : β → Out} {c f x : Str} {ns : List Str} {C : Addr} {n : Nat} {fs : Ow}
/-- self.f = e, a new field -/
theorem b_fld (i : Nat) {y : fs.ty.den} {me : Mx t.den} {k : t.den → Mx β} (hi : Γ[i]? = some (.o (.ins c ns fs) y)) (hx : PE X (.Name x p) (tVar i)) (hc : X.mg c = some (.ref C)) (cl : Cls X.K C) (na : NoAttr X.K C f) (hn : fidx ns f = none) (hch : fs.isCh = true) (hlen : Nat.ble (ns.length + 1) 1000 = true)
    (he : EM X W Γv e t me) (vw : Vw Γ (.d t) Γv) (hr : ∀ v, BS X W hk (Γ.set i (.o (.ins c (ns ++ [f]) (fs.snoc t)) (snocV fs t y v))) rest (k v) I) (hs : swapsWith e (some (.Attribute (.Name x p) f p')) pos.line X.env = pure false) :
    BS X W hk Γ (.Assign [.Attribute (.Name x p) f p'] e pos :: rest) (me >>= k) I :=
  have hr' : PSs X rest (fun D σ H => ∃ v, tS X.K X.mg W hk (Γ.set i (.o (.ins c (ns ++ [f]) (fs.snoc t)) (snocV fs t y v))) (k v) I D σ H) := ⟨fun pins s σ H D J ⟨v, q⟩ => (hr v).run pins s σ H D J q⟩
  pss_imp (pss_cons (ps_fld hx he hs) hr') fun D σ H ⟨E, F, h, g, q⟩ => by
    obtain ⟨fps, w⟩ := g.ow
    obtain ⟨ov, e1, v0, rfl, ho⟩ := w.at_ i _ hi
    obtain ⟨G, g1, g2, g3⟩ := g.look vw
    refine ⟨G, g1, g2, q.bind.post g (fun F' H' x => let ⟨F2, a, _⟩ := g3 F' H' x; ⟨F2, a⟩) fun z pz u F' H' ex ru => ?_⟩
    obtain ⟨F2, x2, back⟩ := g3 F' H' ex
    have ru2 : rl X.K X.mg t z [u] F2 := back z u ru
    obtain ⟨q, C', dx, ws, fp', e2, e3, mc, h1, h2, hl, oo⟩ := ho
    rw [hc] at mc; cases mc
    cases (List.cons.inj e2).1
    refine ⟨.ref q, e1, q, C, dx, ns.zip ws, rfl, x2.h _ _ h1, cl, na, ?_, z, E, F2, h, ?_, pz⟩
    · have := Nat.le_of_ble_eq_true hlen
      rw [List.length_zip, ← hl]; omega
    · rw [putF_new hn hl]
      refine (g.grow x2).writeO hi e1 fun fp nd ho => ?_
      obtain ⟨q', C', dx', ws', fp2, e4, rfl, mc, h3, h4, hl', oo'⟩ := ho
      cases (List.cons.inj e4).1
      rw [hc] at mc; cases mc
      rw [x2.h _ _ h1] at h3
      obtain ⟨_, ed, e5⟩ := HO.ins.inj (Option.some.inj h3)
      subst ed
      have nq : q ∉ dx :: fp2 := (List.nodup_cons.mp nd).1
      have ew : ws = ws' := by
        have := congrArg (List.map Prod.snd) e5
        rwa [List.map_snd_zip (by omega), List.map_snd_zip (by omega)] at this
      subst ew
      refine ⟨List.mem_cons_self .., q, C, dx, ws ++ [u], fp2, rfl, rfl, hc, upd_same, ?_, by rw [List.length_append, List.length_append, hl]; rfl, ol_frm (ol_snoc ru2 hch oo') fun z => nq (List.mem_cons_of_mem _ z)⟩
      rw [upd_ne (fun z => nq (by rw [z]; exact List.mem_cons_self ..))]; exact h4
/-- self.f = e, a field of before -/
theorem b_fldW (i : Nat) {y : fs.ty.den} {u : fs.ty.den → t.den → fs.ty.den} {me : Mx t.den} {k : t.den → Mx β} (hi : Γ[i]? = some (.o (.ins c ns fs) y)) (hx : PE X (.Name x p) (tVar i)) (hc : X.mg c = some (.ref C)) (cl : Cls X.K C) (na : NoAttr X.K C f) (hn : fidx ns f = some n) (hu : Fu fs n t u) (hlen : Nat.ble (ns.length + 1) 1000 = true)
    (he : EM X W Γv e t me) (vw : Vw Γ (.d t) Γv) (hr : ∀ v, BS X W hk (Γ.set i (.o (.ins c ns fs) (u y v))) rest (k v) I) (hs : swapsWith e (some (.Attribute (.Name x p) f p')) pos.line X.env = pure false) :
    BS X W hk Γ (.Assign [.Attribute (.Name x p) f p'] e pos :: rest) (me >>= k) I :=
  have hr' : PSs X rest (fun D σ H => ∃ v, tS X.K X.mg W hk (Γ.set i (.o (.ins c ns fs) (u y v))) (k v) I D σ H) := ⟨fun pins s σ H D J ⟨v, q⟩ => (hr v).run pins s σ H D J q⟩
  pss_imp (pss_cons (ps_fld hx he hs) hr') fun D σ H ⟨E, F, h, g, q⟩ => by
    obtain ⟨fps, w⟩ := g.ow
    obtain ⟨ov, e1, v0, rfl, ho⟩ := w.at_ i _ hi
    obtain ⟨G, g1, g2, g3⟩ := g.look vw
    refine ⟨G, g1, g2, q.bind.post g (fun F' H' x => let ⟨F2, a, _⟩ := g3 F' H' x; ⟨F2, a⟩) fun z pz v F' H' ex ru => ?_⟩
    obtain ⟨F2, x2, back⟩ := g3 F' H' ex
    have ru2 : rl X.K X.mg t z [v] F2 := back z v ru
    obtain ⟨q, C', dx, ws, fp', e2, e3, mc, h1, h2, hl, oo⟩ := ho
    rw [hc] at mc; cases mc
    cases (List.cons.inj e2).1
    refine ⟨.ref q, e1, q, C, dx, ns.zip ws, rfl, x2.h _ _ h1, cl, na, ?_, z, E, F2, h, ?_, pz⟩
    · have := Nat.le_of_ble_eq_true hlen
      rw [List.length_zip, ← hl]; omega
    · rw [putF_old hn hl]
      refine (g.grow x2).writeO hi e1 fun fp nd ho => ?_
      obtain ⟨q', C', dx', ws', fp2, e4, rfl, mc, h3, h4, hl', oo'⟩ := ho
      cases (List.cons.inj e4).1
      rw [hc] at mc; cases mc
      rw [x2.h _ _ h1] at h3
      obtain ⟨_, ed, e5⟩ := HO.ins.inj (Option.some.inj h3)
      subst ed
      have nq : q ∉ dx :: fp2 := (List.nodup_cons.mp nd).1
      have ew : ws = ws' := by
        have := congrArg (List.map Prod.snd) e5
        rwa [List.map_snd_zip (by omega), List.map_snd_zip (by omega)] at this
      subst ew
      refine ⟨List.mem_cons_self .., q, C, dx, ws.set n v, fp2, rfl, rfl, hc, upd_same, ?_, by rw [List.length_set, hl], ol_frm (hu.ol_ ru2 oo') fun z => nq (List.mem_cons_of_mem _ z)⟩
      rw [upd_ne (fun z => nq (by rw [z]; exact List.mem_cons_self ..))]; exact h4
end
/-! ## an instance made -/
section
variable (K : PySem.W.Frag) (mg : Str → Option Value)
/-- what an __init__ promises -/
def spI (c : Str) (ts : Ty) (ns : List Str) (fs : Ow) (f : ts.den → Mx fs.ty.den) : Sp := fun vs H Q E => ∃ (F B : Hp) (x : ts.den) (p dx C : Addr) (vs' : List V), vs = .ref p :: vs' ∧ mg c = some (.ref C) ∧ H = upd (upd B dx (.own p)) p (.ins C dx []) ∧ B p = none ∧ B dx = none ∧ dx ≠ p ∧ Same F B ∧ rl K mg ts x vs' F ∧
  match f x with
  | .ok y => ∀ F' H', Ext F B F' H' → rtr K mg (.o (.ins c ns fs)) y (.ref p) B F' H' → Q .non H'
  | .ex e => ∀ cls d F' H', Ext F B F' H' → xr mg e cls d H' → E cls d H'
  | .no => False
end
section
variable {P : Program} {w : World} {K : PySem.W.Frag} {mg : Str → Option Value} {base : Heap}
def ctxI (c : Str) (ts : Ty) (x : ts.den) (n : Nat) : Ctx := .o (.ins c [] .nl) () :: ctx0 ts x n
def endI (c : Str) (ns : List Str) (fs : Ow) (y : fs.ty.den) (n : Nat) : Ctx := .o (.ins c ns fs) y :: List.replicate n .no
theorem sg_init {F B : Hp} {ts : Ty} {n : Nat} {x : ts.den} {vs : List V} {N : List Str} {c : Str} {p dx C : Addr} (hc : mg c = some (.ref C)) (hs : Same F B) (np : B p = none) (nd : B dx = none) (ne : dx ≠ p) (ha : ts.args = some n) (hN : 1 ≤ N.length) (r : rl K mg ts x vs F) :
    SG K mg ⟨F, B, [0], L2.start N (.ref p :: vs)⟩ (ctxI c ts x (N.length - (n + 1))) (L2.start N (.ref p :: vs)) F (upd (upd B dx (.own p)) p (.ins C dx [])) := by
  obtain ⟨h1, h2, h3⟩ := args_len ha r
  have sB : Same B (upd (upd B dx (.own p)) p (.ins C dx [])) := fun b o e => by
    rw [upd_ne (fun z => by rw [z, np] at e; cases e), upd_ne (fun z => by rw [z, nd] at e; cases e)]; exact e
  refine ⟨⟨Same.refl F, sB, hs.trans sB, fun q _ h => h⟩, fun i hi => rfl, fun j => if j = 0 then [p, dx] else [], fun i s e => ?_, fun i e => ?_, fun i => ?_, fun i j hij a ha => ?_, fun i a ha => ?_⟩
  · cases i with
    | zero =>
      have e : some (Slot.o (.ins c [] .nl) ()) = some s := e
      cases e
      refine ⟨some (.ref p), rfl, .ref p, rfl, p, C, dx, [], [], rfl, rfl, hc, upd_same, ?_, rfl, rfl, rfl⟩
      rw [upd_ne ne, upd_same]
    | succ i =>
      have e : (ctx0 ts x (N.length - (n + 1)))[i]? = some s := e
      unfold ctx0 at e
      by_cases hi : i < n
      · rw [List.getElem?_append_left (by rw [h2]; exact hi)] at e
        obtain ⟨v, e1, t, y, rfl, r'⟩ := h3 i s e
        refine ⟨some v, ?_, by rw [if_neg (Nat.succ_ne_zero i)], v, rfl, r'⟩
        unfold L2.start
        rw [List.map_cons, List.cons_append, List.getElem?_cons_succ, List.getElem?_append_left (by rw [List.length_map, h1]; exact hi), List.getElem?_map, e1]; rfl
      · rw [List.getElem?_append_right (by rw [h2]; omega), h2, List.getElem?_replicate] at e
        split at e
        · rename_i hlt
          cases e
          refine ⟨none, ?_, by rw [if_neg (Nat.succ_ne_zero i)]; exact rfl⟩
          unfold L2.start
          rw [List.map_cons, List.cons_append, List.getElem?_cons_succ, List.getElem?_append_right (by rw [List.length_map, h1]; omega), List.length_map, h1, List.getElem?_replicate, if_pos (by rw [List.length_cons, h1]; omega)]
        · cases e
  · cases i with
    | zero => cases e
    | succ i => exact if_neg (Nat.succ_ne_zero i)
  · by_cases h : i = 0
    · rw [if_pos h]
      exact List.nodup_cons.mpr ⟨fun z => ne (List.mem_singleton.mp z).symm, List.nodup_cons.mpr ⟨List.not_mem_nil, List.nodup_nil⟩⟩
    · rw [if_neg h]; exact List.nodup_nil
  · by_cases h : i = 0
    · rw [if_neg (fun z => hij (h.trans z.symm))]; exact fun z => nomatch z
    · rw [if_neg h] at ha; cases ha
  · by_cases h : i = 0
    · rw [if_pos h] at ha
      rcases List.mem_cons.mp ha with rfl | ha
      · exact ⟨hs.free np, np⟩
      · rw [List.mem_singleton.mp ha]; exact ⟨hs.free nd, nd⟩
    · rw [if_neg h] at ha; cases ha
theorem fn_bodyI {x qual : Str} {st : Stmt} {f : Addr} {fd : FuncData} {dvs : List V} {kws : List (Str × V)} {N ps : List Str} {k : Nat} {ts : Ty} {c : Str} {ns : List Str} {fs : Ow} {g : ts.den → Mx fs.ty.den} {n : Nat} (F : FunD K x qual (defArgs st) (defBody st) (defScope st) dvs kws f fd) (S : FnScope N ps (defScope st)) (hp : ps.length = n + 1) (ha : ts.args = some n) (hN : 1 ≤ N.length)
    (hb : ∀ (cdv : Value) (A : Around) (outer : List Env) (s : Shared) (H : Hp) (E : XK), Room k (A.deeper (envOfC qual (defScope st) s.heap.objs.size f cdv)) → Takes (cxOf (L2.CX P w) P w K mg base N qual (defScope st) f cdv A outer s H E) (fun cls d _ H => E cls d H) →
      PassesOwn (model P w) (A.deeper (envOfC qual (defScope st) s.heap.objs.size f cdv)) (envOfC qual (defScope st) s.heap.objs.size f cdv) (cxOf (L2.CX P w) P w K mg base N qual (defScope st) f cdv A outer s H E).xe →
      ∀ x : ts.den, BS (cxOf (L2.CX P w) P w K mg base N qual (defScope st) f cdv A outer s H E) (fun cls d _ H => E cls d H) [0] (ctxI c ts x (N.length - (n + 1))) (defBody st) (g x) (fun y => .nx (endI c ns fs y (N.length - 1)))) :
    FnOk P w K mg base (L2.CX P w) (k + 1) f fd ps (spI K mg c ts ns fs g) := by
  refine F.ok S (fun vs H Q E h => ?_) (fun cdv A outer s H vs Q E hr h => ?_)
  · obtain ⟨G, B, y, p, dx, C, vs', rfl, _, _, _, _, _, _, rr, _⟩ := h
    rw [List.length_cons, (args_len ha rr).1, hp]
  · obtain ⟨G, B, y, p, dx, C, vs', rfl, hc, rfl, np, nd, ne, hs, rr, q⟩ := h
    refine ⟨_, hb cdv A outer s _ E hr (takes_of rfl rfl rfl rfl) (passes_of rfl) y, ⟨G, B, [0], L2.start N (.ref p :: vs')⟩, G, rfl, sg_init hc hs np nd ne ha hN rr, ?_⟩
    cases e : g y with
    | no => rw [e] at q; exact q
    | ex z => rw [e] at q; exact fun cls d σ F' H' x _ r => q cls d F' H' x r
    | ok z =>
      rw [e] at q
      intro σ F' H' sg
      obtain ⟨fps, w⟩ := sg.ow
      obtain ⟨ov, e1, v, rfl, ho⟩ := w.at_ 0 _ rfl
      have e2 := sg.kp 0 (List.mem_singleton.mpr rfl)
      have e3 : (L2.start N (.ref p :: vs'))[0]? = some (some (.ref p)) := rfl
      rw [e1, e3] at e2
      cases e2
      exact q F' H' sg.e0 ⟨fps 0, ho, w.nd 0, w.new 0⟩
end
end Gm
set_option Elab.async false
set_option linter.all false
set_option maxRecDepth 100000
set_option maxHeartbeats 4000000
namespace Gm
open PySem PySem.Spec L2

section
variable {X : Cx} {W : WX} {Γ : Ctx} {a b e : Expr} {es : List Expr} {kws : List Keyword} {pos p p' apos : Pos} {r : Rt} {t : Ty} {c f x m : Str} {ns ps ks : List Str} {C fI g : Addr} {n k : Nat} {fd : FuncData} {fs : Ow}
/-! ## C(..): the run of a new instance -/
theorem run_new {pins : List (Addr × Obj)} {σ : L2.St} {H : Hp} {s : Shared} {Q : VK} {sp : Sp} {E : XK} {us : List Value} {kw : List (Str × Value)} {gv : Addr → List V} (M : Mk X.K C fI) (Fn : FnOk X.prog X.w X.K X.mg X.base (L2.CX X.prog X.w) k fI fd ps sp) (hr : Room (k + 1) X.A) (hx : PassesAt (L2.CX X.prog X.w) X σ E)
    (J : Inv X pins σ H s) (hb : ∀ (s' : Shared) (q : Addr), X.K.In s'.heap → (gv q).length = ps.length → ∃ zs : List Value, BindsTo s' fd ⟨.ref q :: us, kw⟩ (ps.zip zs) ∧ Vals (gv q) zs)
    (h : ∀ q dx, H q = none → H dx = none → dx ≠ q → sp (gv q) (upd (upd H dx (.own q)) q (.ins C dx [])) (fun v H2 => v = .non ∧ Q (.ref q) H2) E) :
    wpAny (model X.prog X.w) X.A (call (.ref C) us kw) (EP X pins σ Q) X.xe s := by
  have nw : s.heap.objs.size ≠ s.heap.objs.size + 1 := Nat.ne_of_lt (Nat.lt_succ_self _)
  have hq := h (s.heap.objs.size + 1) s.heap.objs.size (J.hok.fresh (Nat.le_succ _)) (J.hok.fresh (Nat.le_refl _)) nw
  have J2 := Inv.made (C := C) J
  obtain ⟨zs, b1, b2⟩ := hb _ (s.heap.objs.size + 1) J2.kIn (Fn.len _ _ _ _ hq)
  have run := Fn.run _ X.stack _ _ ⟨.ref (s.heap.objs.size + 1) :: us, kw⟩ zs (gv (s.heap.objs.size + 1)) _ E (hr.make C us kw) (J2.env0.make C us kw) b1 b2 hq
  refine wpAny_call (make_map (f := fI) J.kIn M.makes M.init (beq_iff_eq.mp M.fn) (codeAny_mono run fun res s' z => ?_))
  cases res with
  | error er => exact hx pins _ _ er s' J2 z
  | ok fl =>
    cases fl with
    | next => exact z.elim
    | brk => exact z.elim
    | cont => exact z.elim
    | ret u =>
      obtain ⟨v, H', J3, rv, ev, q3⟩ := J2.after z
      subst ev
      exact ⟨rv, .ref (s.heap.objs.size + 1), H', J3, rfl, q3⟩
/-- the reading of a new instance -/
def tNew (C : Addr) (sp : Sp) (gv : List V → Addr → List V) (E : L2.St → XK) (ta : TA) : TE := fun σ H Q => ta σ H fun vs H1 => ∀ q dx, H1 q = none → H1 dx = none → dx ≠ q →
  sp (gv vs q) (upd (upd H1 dx (.own q)) q (.ins C dx [])) (fun v H2 => v = .non ∧ Q (.ref q) H2) (E σ)
theorem pe_new {sp : Sp} {ta : TA} (M : Mk X.K C fI) (Fn : FnOk X.prog X.w X.K X.mg X.base (L2.CX X.prog X.w) k fI fd ps sp) (hr : Room (k + 1) X.A) (hg : Gl X x) (hm : X.mg x = some (.ref C)) (hb : Binds X.K fd ps []) (tk : Takes X W) (ha : PA X (e :: es) ta)
    (hdb : (x == ("__debug__" : Str)) = false) (he : starEach (e :: es) X.env = (false, eval e X.env) :: starEach es X.env) (hpl : (backTo pos (starEach es X.env)).any (·.1) = false) :
    PE X (.Call (.Name x p) (e :: es) [] pos) (tNew C sp (fun vs q => .ref q :: vs) (WE W) ta) := ⟨fun pins s σ H Q J h => by
  refine wpAny_Call_Name_kw (ld_glob J hg hm ?_ hdb)
  refine PySem.W.callWith_K (h₀ := X.base) J.ok.mod.kin M.kp (thn (ha.run pos pins s σ H _ J h) fun us s1 ⟨vs, H1, J1, rv, q⟩ => ⟨J1.kIn, ?_⟩) he hpl
  refine run_new (gv := fun q => .ref q :: vs) M Fn hr (passAt tk σ) J1 (fun s' q' kin hl => ⟨.ref q' :: us, ?_, .cons rfl rv⟩) q
  have := hb s' (.ref q' :: us) kin (by rw [List.append_nil, List.length_cons, ← rv.length]; exact hl)
  rw [List.append_nil] at this
  exact this⟩
theorem pe_new0 {sp : Sp} (M : Mk X.K C fI) (Fn : FnOk X.prog X.w X.K X.mg X.base (L2.CX X.prog X.w) k fI fd ps sp) (hr : Room (k + 1) X.A) (hg : Gl X x) (hm : X.mg x = some (.ref C)) (hb : Binds X.K fd ps []) (tk : Takes X W) (hdb : (x == ("__debug__" : Str)) = false) :
    PE X (.Call (.Name x p) [] [] pos) (tNew C sp (fun vs q => .ref q :: vs) (WE W) tNil) := ⟨fun pins s σ H Q J h => by
  refine wpAny_Call_Name_kw (ld_glob J hg hm ?_ hdb)
  refine PySem.W.callWith_K0 J.kIn M.kp (run_new (us := []) (gv := fun q => [.ref q]) M Fn hr (passAt tk σ) J (fun s' q' kin hl => ⟨[.ref q'], ?_, .cons rfl .nil⟩) h)
  exact hb s' [.ref q'] kin hl⟩
/-- C(k = v, ..) -/
theorem pe_newK {sp : Sp} {tk' : TA} {gA : List Value → List Value → List Value} {gV : List V → List V → List V} (M : Mk X.K C fI) (Fn : FnOk X.prog X.w X.K X.mg X.base (L2.CX X.prog X.w) k fI fd ps sp) (hr : Room (k + 1) X.A) (hg : Gl X x) (hm : X.mg x = some (.ref C)) (hb : KBn X.K fd ps 1 ks gA gV) (tk : Takes X W) (hkw : PK X kws tk')
    (hall : (backToKw pos (keywordEach kws X.env)).all (·.1.isSome) = true) (hks : (backToKw pos (keywordEach kws X.env)).filterMap (·.1) = ks) (hdb : (x == ("__debug__" : Str)) = false) (hlen : ∀ σ H Q, tk' σ H Q → tk' σ H fun zs H1 => zs.length = ks.length ∧ Q zs H1)
    (hpl : ((backTo pos (starEach [] X.env)).any (·.1) || (backToKw pos (keywordEach kws X.env)).any (·.1.isNone)) = false) :
    PE X (.Call (.Name x p) [] kws pos) (tNew C sp (fun zs q => gV [.ref q] zs) (WE W) tk') := ⟨fun pins s σ H Q J h => by
  refine wpAny_Call_Name_kw (ld_glob J hg hm ?_ hdb)
  refine PySem.W.callWith_KW0 (h₀ := X.base) J.ok.mod.kin M.kp hall ?_ hpl
  refine thn (hkw.run pos pins s σ H _ J (hlen _ _ _ h)) fun ws s2 ⟨zs, H2, J2, rz, l2, q⟩ => ⟨J2.kIn, ?_⟩
  rw [hks]
  refine run_new (us := []) (gv := fun q => gV [.ref q] zs) M Fn hr (passAt tk σ) J2 (fun s' q' kin hl => ⟨gA [.ref q'] ws, hb.to s' [.ref q'] ws kin rfl (rz.length.symm.trans l2), hb.rel (.cons rfl .nil) rz⟩) q⟩
/-! ## typed -/
abbrev EK (X : Cx) (W : WX) (Γ : Ctx) (kws : List Keyword) (ts : Ty) (m : Mx ts.den) : Prop := PK X kws (tA X.mg X.K W Γ ts m)
theorem pk_imp {t t' : TA} (h : PK X kws t) (i : ∀ σ H Q, t' σ H Q → t σ H Q) : PK X kws t' := ⟨fun pos pins s σ H Q I q => h.run pos pins s σ H Q I (i σ H Q q)⟩
theorem ek_nil : EK X W Γ [] .nl (.ok ()) := pk_imp pk_nil fun σ H Q ⟨F, s, d, p⟩ => p [] F H (Ext.refl s) rfl
theorem ek_cons {nm : Option Str} {kpos : Pos} {ts : Ty} {m : Mx t.den} {ms : Mx ts.den} (ha : EM X W Γ a t m) (hr : EK X W Γ kws ts ms) : EK X W Γ (⟨nm, a, kpos⟩ :: kws) (.pr t ts) (m >>= fun x => ms >>= fun y => .ok (x, y)) := pk_imp (pk_cons ha hr) fun σ H Q ⟨F, s, d, p⟩ => by
  refine ⟨F, s, d, p.bind.mono fun x px v F1 H1 e1 r1 => ⟨F1, e1.i, d.mono e1.f, post.ext e1 px.bind fun y py vs F2 H2 e2 r2 => ?_⟩⟩
  exact py (v :: vs) F2 H2 (e1.trans e2) ⟨v, vs, rfl, rl_mono e2.f t x _ r1, r2⟩
theorem new_read {ts us : Ty} {π : us.den → ts.den} {gv : List V → Addr → List V} {h : ts.den → Mx fs.ty.den} {ma : Mx us.den} (hm : X.mg c = some (.ref C)) (hg : ∀ (F : Hp) (y : us.den) (zs : List V) (q : Addr), rl X.K X.mg us y zs F → ∃ vs', gv zs q = .ref q :: vs' ∧ rl X.K X.mg ts (π y) vs' F) :
    ∀ σ H Q, tR X.mg X.K W Γ (.o (.ins c ns fs)) (ma >>= fun y => h (π y)) σ H Q → tNew C (spI X.K X.mg c ts ns fs h) gv (WE W) (tA X.mg X.K W Γ us ma) σ H Q := fun σ H Q ⟨F, s, d, pp⟩ => ⟨F, s, d, pp.bind.mono fun y py zs F1 H1 e1 r1 q dx nq nd ne => by
  obtain ⟨vs', e2, r2⟩ := hg F1 y zs q r1
  refine ⟨F1, H1, π y, q, dx, C, vs', e2, hm, rfl, nq, nd, ne, e1.i, r2, ?_⟩
  cases hh : h (π y) with
  | no => rw [hh] at py; exact py
  | ex z => rw [hh] at py; exact fun cls d F' H' x r => py cls d F' H' (e1.trans x) r
  | ok z => rw [hh] at py; exact fun F' H' x r => ⟨rfl, py (.ref q) F' H' (e1.trans x) (rtr_pre (r := .o (.ins c ns fs)) e1.h r)⟩⟩
theorem e_new {ts : Ty} {h : ts.den → Mx fs.ty.den} {ma : Mx ts.den} (M : Mk X.K C fI) (Fn : FnOk X.prog X.w X.K X.mg X.base (L2.CX X.prog X.w) k fI fd ps (spI X.K X.mg x ts ns fs h)) (hr : Room (k + 1) X.A) (hg : Gl X x) (hm : X.mg x = some (.ref C)) (hb : Binds X.K fd ps []) (tk : Takes X W) (ha : EA X W Γ (e :: es) ts ma)
    (hdb : (x == ("__debug__" : Str)) = false) (he : starEach (e :: es) X.env = (false, eval e X.env) :: starEach es X.env) (hpl : (backTo pos (starEach es X.env)).any (·.1) = false) :
    EO X W Γ (.Call (.Name x p) (e :: es) [] pos) (.ins x ns fs) (ma >>= h) := pe_imp (pe_new M Fn hr hg hm hb tk ha hdb he hpl) (new_read (π := fun y => y) hm fun F y zs q r => ⟨zs, rfl, r⟩)
theorem e_newK {ts us : Ty} {π : us.den → ts.den} {h : ts.den → Mx fs.ty.den} {ma : Mx us.den} {gA : List Value → List Value → List Value} {gV : List V → List V → List V} (M : Mk X.K C fI) (Fn : FnOk X.prog X.w X.K X.mg X.base (L2.CX X.prog X.w) k fI fd ps (spI X.K X.mg x ts ns fs h)) (hr : Room (k + 1) X.A) (hg : Gl X x) (hm : X.mg x = some (.ref C)) (hb : KBn X.K fd ps 1 ks gA gV) (tk : Takes X W)
    (hgv : ∀ (F : Hp) (y : us.den) (zs : List V) (q : Addr), rl X.K X.mg us y zs F → ∃ vs', gV [.ref q] zs = .ref q :: vs' ∧ rl X.K X.mg ts (π y) vs' F) (hus : us.args = some ks.length) (hkw : EK X W Γ kws us ma)
    (hall : (backToKw pos (keywordEach kws X.env)).all (·.1.isSome) = true) (hks : (backToKw pos (keywordEach kws X.env)).filterMap (·.1) = ks) (hdb : (x == ("__debug__" : Str)) = false)
    (hpl : ((backTo pos (starEach [] X.env)).any (·.1) || (backToKw pos (keywordEach kws X.env)).any (·.1.isNone)) = false) :
    EO X W Γ (.Call (.Name x p) [] kws pos) (.ins x ns fs) (ma >>= fun y => h (π y)) :=
  pe_imp (pe_newK M Fn hr hg hm hb tk hkw hall hks hdb (fun σ H Q ⟨F, s, d, pp⟩ => ⟨F, s, d, pp.mono fun y py zs F1 H1 e1 r1 => ⟨(args_len hus r1).1, py zs F1 H1 e1 r1⟩⟩) hpl) (new_read hm hgv)
/-! ## methods -/
theorem run_fnA {pins : List (Addr × Obj)} {σ : L2.St} {H : Hp} {s : Shared} {Q : VK} {sp : Sp} {E : XK} {us : List Value} {vs : List V} (Fn : FnOk X.prog X.w X.K X.mg X.base (L2.CX X.prog X.w) k g fd ps sp) (hr : Room k X.A) (hb : Binds X.K fd ps []) (hx : PassesAt (L2.CX X.prog X.w) X σ E) (J : Inv X pins σ H s) (rv : Vals vs us) (h : sp vs H Q E) :
    wpAny (model X.prog X.w) X.A (call (.ref g) us) (EP X pins σ Q) X.xe s := run_fnSD (E := fun _ => E) (dvs := []) (ds := []) Fn hr hb .nil hx J rv (by rw [List.append_nil]; exact h)
def tMet (C : Addr) (m : Str) (sp : Sp) (E : L2.St → XK) (ta : TE) (t : TA) : TE := fun σ H Q => ta σ H fun x H1 => ∃ a dx fs, x = .ref a ∧ H1 a = some (.ins C dx fs) ∧ fs.lookup m = none ∧ t σ H1 fun vs H2 => sp (x :: vs) H2 Q (E σ)
theorem pe_met {pl : Sem Bool} {sp : Sp} {ta : TE} {t : TA} {o : Expr} (ho : PE X o ta) (cl : Cls X.K C) (hm : Meth X.K C m g) (Fn : FnOk X.prog X.w X.K X.mg X.base (L2.CX X.prog X.w) k g fd ps sp) (hr : Room k X.A) (hb : Binds X.K fd ps []) (tk : Takes X W) (ha : PA X (e :: es) t)
    (hst : starEach (e :: es) X.env = (false, eval e X.env) :: starEach es X.env) (hpl : (backTo pos (starEach es X.env)).any (·.1) = false)
    (ht : eval (.Call (.Attribute o m apos) (e :: es) [] pos) X.env = (eval o X.env >>= fun ov => standAt apos.atName >>= fun _ => holding [ov] (getMethod ov m pl) >>= fun q => callWith pos q.1 q.2 (backTo pos (starEach (e :: es) X.env)) (backToKw pos (keywordEach [] X.env)))) :
    PE X (.Call (.Attribute o m apos) (e :: es) [] pos) (tMet C m sp (WE W) ta t) := ⟨fun pins s σ H Q J h => by
  refine PySem.W.methodCall_KW (pl := pl) (thn (ho.run pins s σ H _ J h) fun u s1 ⟨z, H1, J1, rz, a, dx, fs, ez, ea, l, q⟩ => ?_) ht
  subst ez
  cases (show u = Value.ref a from rz)
  refine getmeth_ok J1 ea cl hm l (PySem.W.callWith_K (first := [.ref a]) (h₀ := X.base) J1.ok.mod.kin hm.kp (thn (ha.run pos pins s1 σ H1 _ J1 q) fun us s2 ⟨vs, H2, J2, rv, q2⟩ => ⟨J2.kIn, ?_⟩) hst hpl)
  exact run_fnA (us := .ref a :: us) (vs := .ref a :: vs) Fn hr hb (passAt tk σ) J2 (.cons rfl rv) q2⟩
theorem pe_met0 {pl : Sem Bool} {sp : Sp} {ta : TE} {o : Expr} (ho : PE X o ta) (cl : Cls X.K C) (hm : Meth X.K C m g) (Fn : FnOk X.prog X.w X.K X.mg X.base (L2.CX X.prog X.w) k g fd ps sp) (hr : Room k X.A) (hb : Binds X.K fd ps []) (tk : Takes X W)
    (ht : eval (.Call (.Attribute o m apos) [] [] pos) X.env = (eval o X.env >>= fun ov => standAt apos.atName >>= fun _ => holding [ov] (getMethod ov m pl) >>= fun q => callWith pos q.1 q.2 (backTo pos (starEach [] X.env)) (backToKw pos (keywordEach [] X.env)))) :
    PE X (.Call (.Attribute o m apos) [] [] pos) (tMet C m sp (WE W) ta tNil) := ⟨fun pins s σ H Q J h => by
  refine PySem.W.methodCall_KW (pl := pl) (thn (ho.run pins s σ H _ J h) fun u s1 ⟨z, H1, J1, rz, a, dx, fs, ez, ea, l, q⟩ => ?_) ht
  subst ez
  cases (show u = Value.ref a from rz)
  refine getmeth_ok J1 ea cl hm l (PySem.W.callWith_K0 (first := [.ref a]) J1.kIn hm.kp ?_)
  exact run_fnA (us := [.ref a]) (vs := [.ref a]) Fn hr hb (passAt tk σ) J1 (.cons rfl .nil) q⟩
theorem fidx_none {f : Str} {v : List V} : ∀ {ns : List Str}, fidx ns f = none → (ns.zip v).lookup f = none
  | [], _ => rfl
  | gg :: rr, h => by
    cases v with
    | nil => rfl
    | cons w ws =>
      have h : (if f = gg then some 0 else (fidx rr f).map (· + 1)) = none := h
      by_cases e : f = gg
      · rw [if_pos e] at h; cases h
      · rw [if_neg e] at h
        have h3 : fidx rr f = none := by
          cases h3 : fidx rr f with
          | none => rfl
          | some m => rw [h3] at h; cases h
        rw [List.zip_cons_cons, List.lookup_cons, show (f == gg) = false from beq_eq_false_iff_ne.mpr e]
        exact fidx_none h3
theorem met_read {ts fd' : Ty} {h : (Ty.pr (.ins c ns fd') ts).den → Mx r.den} {mo : Mx fd'.den} {ma : Mx ts.den} (hc : X.mg c = some (.ref C)) (hn : fidx ns m = none) :
    ∀ σ H Q, tR X.mg X.K W Γ r (mo >>= fun x => ma >>= fun y => h (x, y)) σ H Q → tMet C m (spF X.K X.mg (.pr (.ins c ns fd') ts) r h) (WE W) (tR X.mg X.K W Γ (.d (.ins c ns fd')) mo) (tA X.mg X.K W Γ ts ma) σ H Q := fun σ H Q ⟨F, s, d, pp⟩ =>
  ⟨F, s, d, pp.bind.mono fun x px v F1 H1 e1 r1 => by
    obtain ⟨q, C', dx, ws, e2, mc, h1, hl, rr⟩ := id r1
    rw [hc] at mc; cases mc
    cases (List.cons.inj e2).1
    refine ⟨q, dx, _, rfl, e1.i _ _ h1, fidx_none hn, F1, e1.i, d.mono e1.f, post.ext e1 px.bind fun y py vs F2 H2 e2 r2 => ?_⟩
    refine ⟨F2, (x, y), e2.i, ⟨_, vs, rfl, rl_mono e2.f (.ins c ns fd') x _ r1, r2⟩, ?_⟩
    cases hh : h (x, y) with
    | no => rw [hh] at py; exact py
    | ex z => rw [hh] at py; exact fun cls d F' H' x r => py cls d F' H' ((e1.trans e2).trans x) r
    | ok z => rw [hh] at py; exact fun v F' H' x r => py v F' H' ((e1.trans e2).trans x) (rtr_pre (e1.h.trans e2.h) r)⟩
theorem e_met {pl : Sem Bool} {ts fd' : Ty} {o : Expr} {h : (Ty.pr (.ins c ns fd') ts).den → Mx r.den} {mo : Mx fd'.den} {ma : Mx ts.den} (hc : X.mg c = some (.ref C)) (cl : Cls X.K C) (hm : Meth X.K C m g) (Fn : FnOk X.prog X.w X.K X.mg X.base (L2.CX X.prog X.w) k g fd ps (spF X.K X.mg (.pr (.ins c ns fd') ts) r h)) (hr : Room k X.A) (hb : Binds X.K fd ps []) (tk : Takes X W) (hn : fidx ns m = none)
    (ho : EM X W Γ o (.ins c ns fd') mo) (ha : EA X W Γ (e :: es) ts ma) (hst : starEach (e :: es) X.env = (false, eval e X.env) :: starEach es X.env) (hpl : (backTo pos (starEach es X.env)).any (·.1) = false)
    (ht : eval (.Call (.Attribute o m apos) (e :: es) [] pos) X.env = (eval o X.env >>= fun ov => standAt apos.atName >>= fun _ => holding [ov] (getMethod ov m pl) >>= fun q => callWith pos q.1 q.2 (backTo pos (starEach (e :: es) X.env)) (backToKw pos (keywordEach [] X.env)))) :
    ER X W Γ (.Call (.Attribute o m apos) (e :: es) [] pos) r (mo >>= fun x => ma >>= fun y => h (x, y)) := pe_imp (pe_met ho cl hm Fn hr hb tk ha hst hpl ht) (met_read hc hn)
theorem e_met0 {pl : Sem Bool} {fd' : Ty} {o : Expr} {h : (Ty.pr (.ins c ns fd') .nl).den → Mx r.den} {mo : Mx fd'.den} (hc : X.mg c = some (.ref C)) (cl : Cls X.K C) (hm : Meth X.K C m g) (Fn : FnOk X.prog X.w X.K X.mg X.base (L2.CX X.prog X.w) k g fd ps (spF X.K X.mg (.pr (.ins c ns fd') .nl) r h)) (hr : Room k X.A) (hb : Binds X.K fd ps []) (tk : Takes X W) (hn : fidx ns m = none)
    (ho : EM X W Γ o (.ins c ns fd') mo) (ht : eval (.Call (.Attribute o m apos) [] [] pos) X.env = (eval o X.env >>= fun ov => standAt apos.atName >>= fun _ => holding [ov] (getMethod ov m pl) >>= fun q => callWith pos q.1 q.2 (backTo pos (starEach [] X.env)) (backToKw pos (keywordEach [] X.env)))) :
    ER X W Γ (.Call (.Attribute o m apos) [] [] pos) r (mo >>= fun x => h (x, ())) := pe_imp (pe_met0 ho cl hm Fn hr hb tk ht) fun σ H Q q => by
  obtain ⟨F, s, d, pp⟩ := met_read (W := W) (Γ := Γ) (ts := .nl) (ma := .ok ()) (h := h) hc hn σ H Q q
  exact ⟨F, s, d, pp.mono fun x px v F1 H1 e1 r1 => by
    obtain ⟨a, dx, fs, ea, h1, h2, F2, s2, d2, p2⟩ := px v F1 H1 e1 r1
    exact ⟨a, dx, fs, ea, h1, h2, p2 [] F2 _ (Ext.refl s2) rfl⟩⟩
/-! ## properties -/
def noEx {α : Type} : Mx α → Mx α
  | .ok x => .ok x
  | _ => .no
theorem e_prop {fd' : Ty} {o : Expr} {q : Addr} {h : (Ty.pr (.ins c ns fd') .nl).den → Mx r.den} {mo : Mx fd'.den} (hc : X.mg c = some (.ref C)) (cl : Cls X.K C) (hp : PropOf X.K C f q g) (Fn : FnOk X.prog X.w X.K X.mg X.base (L2.CX X.prog X.w) k g fd ps (spF X.K X.mg (.pr (.ins c ns fd') .nl) r h)) (hr : Room (k + 1) X.A) (hb : Binds X.K fd ps [])
    (ho : EM X W Γ o (.ins c ns fd') mo) (hab : attributeBase o f X.env (eval o X.env) = eval o X.env) : ER X W Γ (.Attribute o f pos) r (mo >>= fun x => noEx (h (x, ()))) :=
  pe_imp (pe_prop (dvs := []) (ds := []) (E := E0) ho cl hp Fn hr hb .nil passL hab) fun σ H Q ⟨F, s, d, pp⟩ => ⟨F, s, d, pp.bind.mono fun x px v F1 H1 e1 r1 => by
    obtain ⟨q, C', dx, ws, e2, mc, h1, hl, rr⟩ := id r1
    rw [hc] at mc; cases mc
    cases (List.cons.inj e2).1
    refine ⟨q, dx, _, rfl, e1.i _ _ h1, F1, (x, ()), e1.i, ⟨_, [], rfl, r1, rfl⟩, ?_⟩
    cases hh : h (x, ()) with
    | no => rw [hh] at px; exact px
    | ex z => rw [hh] at px; exact px.elim
    | ok z => rw [hh] at px; exact fun v F' H' x r => px v F' H' (e1.trans x) (rtr_pre e1.h r)⟩
/-! ## a class's constants, static methods -/
theorem e_gref {v : V} {u : Value} {z : t.den} (hg : Gl X x) (hm : X.mg x = some u) (rv : RelV v u) (hd : (x == ("__debug__" : Str)) = false) (hv : ∀ F, rl X.K X.mg t z [v] F) : EM X W Γ (.Name x p) t (.ok z) :=
  e_c (v := v) ⟨fun _ _ _ H _ J h => ld_glob J hg hm ⟨v, H, J, rv, h⟩ hd⟩ hv
theorem e_cval {v : V} {u mc : Value} {z : t.den} (hg : Gl X x) (hm : X.mg x = some (.ref C)) (cr : ClX.CRead X.K C mc) (cv : ClX.CVal X.K C mc f v u) (hd : (x == ("__debug__" : Str)) = false) (hv : ∀ F, rl X.K X.mg t z [v] F) (hab : attributeBase (.Name x p) f X.env (eval (.Name x p) X.env) = eval (.Name x p) X.env) :
    EM X W Γ (.Attribute (.Name x p) f pos) t (.ok z) :=
  pe_imp (ClX.pe_cval (ta := tC (.ref C)) ⟨fun _ _ _ H _ J h => ld_glob J hg hm ⟨.ref C, H, J, rfl, h⟩ hd⟩ hab) fun σ H Q ⟨F, s, d, pp⟩ => ⟨C, mc, v, u, rfl, cr, cv, pp v F H (Ext.refl s) (hv F)⟩
structure SMet (K : PySem.W.Frag) (C : Addr) (mc : Value) (m : Str) (q g : Addr) : Prop where
  at_ : PySem.W.findCls K (.ref C) mc m = some (.get (.builtin "staticmethod.__get__") (.ref q) .none (.ref C))
  rc : ∃ rest, PySem.W.recIn K q "staticmethod" = some (.ref g :: rest)
  kp : PySem.W.keepIn K (.ref g) = true
theorem e_smet {pl : Sem Bool} {mc : Value} {q : Addr} {ts : Ty} {h : ts.den → Mx r.den} {ma : Mx ts.den} (hg : Gl X x) (hmg : X.mg x = some (.ref C)) (cr : ClX.CRead X.K C mc) (sm : SMet X.K C mc m q g) (Fn : FnOk X.prog X.w X.K X.mg X.base (L2.CX X.prog X.w) k g fd ps (spF X.K X.mg ts r h)) (hr : Room k X.A) (hb : Binds X.K fd ps []) (tk : Takes X W) (hd : (x == ("__debug__" : Str)) = false)
    (ha : EA X W Γ (e :: es) ts ma) (hst : starEach (e :: es) X.env = (false, eval e X.env) :: starEach es X.env) (hpl : (backTo pos (starEach es X.env)).any (·.1) = false)
    (ht : eval (.Call (.Attribute (.Name x p) m apos) (e :: es) [] pos) X.env = (eval (.Name x p) X.env >>= fun ov => standAt apos.atName >>= fun _ => holding [ov] (getMethod ov m pl) >>= fun q => callWith pos q.1 q.2 (backTo pos (starEach (e :: es) X.env)) (backToKw pos (keywordEach [] X.env)))) :
    ER X W Γ (.Call (.Attribute (.Name x p) m apos) (e :: es) [] pos) r (ma >>= h) := ⟨fun pins s σ H Q J ⟨F, sm1, d, pp⟩ => by
  obtain ⟨rest, hrec⟩ := sm.rc
  refine PySem.W.methodCall_KW (pl := pl) (ld_glob J hg hmg ?_ hd) ht
  refine PySem.W.method_cls J.kIn cr.ga (PySem.W.cls_bind J.kIn cr.rd sm.at_ (wpAny_call (PySem.W.sm_get (s := { s with toks := s.toks + 1 }) J.kIn hrec (PySem.W.handed_on rfl ?_))))
  have J1 : Inv X pins σ H { s with toks := s.toks + 1 } := J.tok _
  have hq : tA X.mg X.K W Γ ts ma σ H fun vs H1 => spF X.K X.mg ts r h vs H1 Q (WE W σ) := ⟨F, sm1, d, pp.bind.mono fun z pz vs F1 H1 e1 r1 => by
    refine ⟨F1, z, e1.i, r1, ?_⟩
    cases hgz : h z with
    | no => rw [hgz] at pz; exact pz
    | ex y => rw [hgz] at pz; exact fun cls d F' H' x r => pz cls d F' H' (e1.trans x) r
    | ok y => rw [hgz] at pz; exact fun v F' H' x r => pz v F' H' (e1.trans x) (rtr_pre e1.h r)⟩
  refine PySem.W.callWith_K (first := []) (h₀ := X.base) J1.ok.mod.kin sm.kp (thn (ha.run pos pins _ σ H _ J1 hq) fun us s2 ⟨vs, H2, J2, rv, q2⟩ => ⟨J2.kIn, ?_⟩) hst hpl
  exact run_fnA Fn hr hb (passAt tk σ) J2 rv q2⟩
end
end Gm
set_option Elab.async false
set_option linter.all false
set_option maxRecDepth 100000
set_option maxHeartbeats 4000000
namespace Gm
open PySem PySem.Spec L2
open PyProof.Rows (envOfC)

/-! ## a def without a return -/
theorem fn_bodyN {P : Program} {w : World} {K : PySem.W.Frag} {mg : Str → Option Value} {base : Heap} {x qual : Str} {st : Stmt} {f : Addr} {fd : FuncData} {dvs : List V} {kws : List (Str × V)} {N ps : List Str} {k : Nat} {ts : Ty} {g : ts.den → Mx Unit} (F : FunD K x qual (defArgs st) (defBody st) (defScope st) dvs kws f fd) (S : FnScope N ps (defScope st)) (ha : ts.args = some ps.length)
    (hb : ∀ (cdv : Value) (A : Around) (outer : List Env) (s : Shared) (H : Hp) (E : XK), Room k (A.deeper (envOfC qual (defScope st) s.heap.objs.size f cdv)) → Takes (cxOf (L2.CX P w) P w K mg base N qual (defScope st) f cdv A outer s H E) (fun cls d _ H => E cls d H) →
      PassesOwn (model P w) (A.deeper (envOfC qual (defScope st) s.heap.objs.size f cdv)) (envOfC qual (defScope st) s.heap.objs.size f cdv) (cxOf (L2.CX P w) P w K mg base N qual (defScope st) f cdv A outer s H E).xe →
      ∀ x : ts.den, BS (cxOf (L2.CX P w) P w K mg base N qual (defScope st) f cdv A outer s H E) (fun cls d _ H => E cls d H) [] (ctx0 ts x (N.length - ps.length)) (defBody st) (g x) (fun _ => .nx (List.replicate N.length .no))) :
    FnOk P w K mg base (L2.CX P w) (k + 1) f fd ps (spF K mg ts (.d .non) g) := by
  refine F.ok S (fun vs H Q E h => ?_) (fun cdv A outer s H vs Q E hr h => ?_)
  · obtain ⟨G, y, hs, rr, _⟩ := h
    exact (args_len ha rr).1
  · obtain ⟨G, y, hs, rr, q⟩ := h
    refine ⟨_, hb cdv A outer s H E hr (takes_of rfl rfl rfl rfl) (passes_of rfl) y, ⟨G, H, [], L2.start N vs⟩, G, rfl, sg_start hs ha rr, ?_⟩
    cases e : g y with
    | no => rw [e] at q; exact q
    | ex z => rw [e] at q; exact fun cls d σ F' H' x _ r => q cls d F' H' x r
    | ok z => rw [e] at q; exact fun σ F' H' sg => q .non F' H' sg.e0 rfl

section
variable {X : Cx} {W : WX} {hk : List Nat} {Γ Γ' Γv : Ctx} {st : Stmt} {rest body suite : List Stmt} {b0 : Stmt} {e : Expr} {pos np pos' : Pos} {β : Type} {I : β → Out} {c x : Str} {C : Addr}
/-! ## raise -/
theorem b_raise (x : Str) (hc : X.calm = true) (tk : Takes X W) (hm : X.mg x = some (.ref C)) (he : PMk X e (fun _ H Q => Q (.ref C) none H)) : BS X W hk Γ (.Raise (some e) none pos :: rest) (.ex ⟨x, "", .n⟩) I :=
  pss_imp (pss_cons (ps_raise hc tk he) pss_never) fun D σ H ⟨E, F, h, g, q⟩ => q (.ref C) none σ F H g.e0 g.kp ⟨C, hm, rfl, rfl⟩
/-! ## try: A; except C: B -/
def subs (l : List (Str × Bool)) (c : Str) : Option Bool := l.lookup c
def tryM {α : Type} (l : List (Str × Bool)) (m h : Mx α) : Mx α := match m with
  | .ok a => .ok a
  | .ex e => (match subs l e.c with
    | some true => h
    | some false => .ex e
    | none => .no)
  | .no => .no
/-- what is known in the suite: the slots that the body leaves -/
def kept : Ctx → List Nat → Nat → Ctx
  | [], _, _ => []
  | s :: r, js, i => (if js.contains i then s else .no) :: kept r js (i + 1)
theorem kept_get {js : List Nat} : ∀ {Γ : Ctx} {n i : Nat} {s : Slot}, (kept Γ js n)[i]? = some s → ∃ u, Γ[i]? = some u ∧ (s = .no ∨ (s = u ∧ n + i ∈ js))
  | [], _, _, _, e => by simp [kept] at e
  | u :: r, n, 0, s, e => by
    refine ⟨u, rfl, ?_⟩
    have e : (if js.contains n then u else Slot.no) = s := by simpa [kept] using e
    by_cases h : js.contains n = true
    · rw [if_pos h] at e; exact .inr ⟨e.symm, by simpa using h⟩
    · rw [if_neg h] at e; exact .inl e.symm
  | u :: r, n, i + 1, s, e => by
    obtain ⟨v, h1, h2⟩ := kept_get (Γ := r) (n := n + 1) (i := i) (s := s) (by simpa [kept] using e)
    refine ⟨v, by simpa using h1, h2.imp_right fun ⟨a, b⟩ => ⟨a, by rw [show n + (i + 1) = n + 1 + i by omega]; exact b⟩⟩
def Slot.isO : Slot → Bool
  | .o _ _ => true
  | _ => false
def Ctx.noOwn (Γ : Ctx) : Bool := Γ.all fun s => !s.isO
theorem noOwn_at {i : Nat} {s : Slot} (h : Ctx.noOwn Γ = true) (e : Γ[i]? = some s) : ∀ o y, s ≠ .o o y := fun o y z => by
  have := List.all_eq_true.mp h s (List.mem_iff_getElem?.mpr ⟨i, e⟩)
  subst z
  cases this
theorem lookup_in {c : Str} {b : Bool} : ∀ {l : List (Str × Bool)}, l.lookup c = some b → (c, b) ∈ l
  | [], h => nomatch h
  | (y, b2) :: r, h => by
    rw [List.lookup_cons] at h
    by_cases hz : c = y
    · rw [show (c == y) = true from beq_iff_eq.mpr hz] at h
      cases h
      rw [hz]; exact List.mem_cons_self ..
    · rw [show (c == y) = false from beq_eq_false_iff_ne.mpr hz] at h
      exact List.mem_cons_of_mem _ (lookup_in h)
theorem sg_data {K : PySem.W.Frag} {mg : Str → Option Value} {E : Ent} {σ : L2.St} {F H : Hp} (e0 : Ext E.F0 E.B F H) (kp : ∀ i ∈ E.hk, σ[i]? = E.s0[i]?) (h : Ctx.noOwn Γ = true) (d : SD K mg Γ σ F) : SG K mg E Γ σ F H := by
  refine ⟨e0, kp, fun _ => [], fun i s e => ?_, fun _ _ => rfl, fun _ => List.nodup_nil, fun _ _ _ a ha => (nomatch ha), fun _ a ha => (nomatch ha)⟩
  obtain ⟨ov, e1, r⟩ := d i s e
  refine ⟨ov, e1, ?_⟩
  cases s with
  | no => exact rfl
  | d t y => exact ⟨rfl, r⟩
  | o o y => exact absurd rfl (noOwn_at h e o y)
theorem SG.sdn {K : PySem.W.Frag} {mg : Str → Option Value} {E : Ent} {σ : L2.St} {F H : Hp} (g : SG K mg E Γ σ F H) (h : Ctx.noOwn Γ = true) : SD K mg Γ σ F := fun i s e => by
  obtain ⟨_, _, fps, q⟩ := g
  obtain ⟨ov, e1, r⟩ := q.at_ i s e
  refine ⟨ov, e1, ?_⟩
  cases s with
  | no => exact True.intro
  | d t y => exact r.2
  | o o y => exact absurd rfl (noOwn_at h e o y)
theorem noOwn_kept {js : List Nat} : ∀ {Γ : Ctx} {n : Nat}, Ctx.noOwn Γ = true → Ctx.noOwn (kept Γ js n) = true
  | [], _, _ => rfl
  | s :: r, n, h => by
    have h' : (!s.isO && Ctx.noOwn r) = true := h
    rw [Bool.and_eq_true] at h'
    show (!(if js.contains n then s else Slot.no).isO && Ctx.noOwn (kept r js (n + 1))) = true
    rw [noOwn_kept h'.2, Bool.and_true]
    by_cases hc : js.contains n = true
    · rw [if_pos hc]; exact h'.1
    · rw [if_neg hc]; rfl
/-- the classes of exceptions that may come, and whether the clause takes them -/
def SubOk (X : Cx) (l : List (Str × Bool)) (C : Addr) : Prop := ∀ (y : Str) (b : Bool), (y, b) ∈ l → ∃ D, X.mg y = some (.ref D) ∧ PySem.W.exmOne X.K (.ref D) (.ref C) = some b
theorem sub_nil : SubOk X [] C := fun _ _ h => nomatch h
theorem sub_cons {y : Str} {b : Bool} {D : Addr} {l : List (Str × Bool)} (h1 : X.mg y = some (.ref D)) (h2 : PySem.W.exmOne X.K (.ref D) (.ref C) = some b) (h : SubOk X l C) : SubOk X ((y, b) :: l) C := fun z c hz => by
  rcases List.mem_cons.mp hz with e | hz
  · cases e; exact ⟨D, h1, h2⟩
  · exact h z c hz
/-- the body's results go into the statement's surroundings -/
theorem s1_try {l : List (Str × Bool)} {mb mh : Mx β} (js : List Nat) (hs : X.stack = X.env :: X.outer) (hf : X.env.frame = some X.env.locals) (hn : Names X c (.ref C)) (tk : Takes X W) (hno : Ctx.noOwn Γ = true) (hjs0 : ∀ j ∈ hk, j ∈ js) (hlast0 : js.contains (Γ.length - 1) = true) (hsub : SubOk X l C)
    (hb : ∀ (W' : WX) (pn : List (Addr × Obj)) (xe : Value → Shared → Prop), Takes (X.tr pn xe) W' → PassesOwn (model X.prog X.w) X.A X.env xe → BS (X.tr pn xe) W' js Γ body mb I)
    (hh : ∀ (a : Addr) (oe : Obj) (pn : List (Addr × Obj)), BS (X.suite a ((a, oe) :: pn)) W hk (kept Γ js 0) (b0 :: suite) mh I) :
    S1 X W hk Γ (.Try body [.ExceptHandler (some (.Name c np)) none (b0 :: suite) pos'] [] [] pos) (tryM l mb mh) I :=
  ps_imp (ps_try_only (Wout := W) (c := .ref C) (tb := fun W' => tS X.K X.mg W' js Γ mb I) (ts := fun a cls d => tS X.K X.mg W hk (kept Γ js 0) mh I) hs hf hn tk (fun W' pn xe t p => hb W' pn xe t p) (fun a oe cls d pn _ _ => hh a oe pn)) fun D σ H ⟨E, F, h, g, q⟩ => by
    have hjs := hjs0
    have hlast : Γ.length - 1 ∈ js := List.contains_iff_mem.mp hlast0
    have gd := g.sdn hno
    refine ⟨⟨F, H, js, σ⟩, F, rfl, sg_data (Ext.refl g.e0.i) (fun _ _ => rfl) hno gd, ?_⟩
    have up : ∀ (Γ1 : Ctx) (σ' : L2.St) (F' H' : Hp), SG X.K X.mg ⟨F, H, js, σ⟩ Γ1 σ' F' H' → SG X.K X.mg E Γ1 σ' F' H' := fun Γ1 σ' F' H' s => by
      obtain ⟨e1, k1, fps, w⟩ := s
      refine ⟨g.e0.trans e1, fun i hi => (k1 i (hjs i (by rw [← h]; exact hi))).trans (g.kp i hi), fps, w.at_, w.out, w.nd, w.sep, fun i a ha => ⟨(w.new i a ha).1, ?_⟩⟩
      cases eb : E.B a with
      | none => rfl
      | some o => have := g.e0.h _ _ eb; rw [show H a = none from (w.new i a ha).2] at this; cases this
    cases hm : mb with
    | no => rw [hm] at q; exact q
    | ok b =>
      rw [hm] at q
      have q : outP X.K X.mg E D (I b) := q
      show outP X.K X.mg ⟨F, H, js, σ⟩ D (I b)
      cases ei : I b with
      | nx Γ1 => rw [ei] at q; exact fun σ' F' H' s => q σ' F' H' (up _ _ _ _ s)
      | bk Γ1 => rw [ei] at q; exact fun σ' F' H' s => q σ' F' H' (up _ _ _ _ s)
      | ct Γ1 => rw [ei] at q; exact fun σ' F' H' s => q σ' F' H' (up _ _ _ _ s)
      | rt r y => rw [ei] at q; exact fun v F' H' x rr => q v F' H' (g.e0.trans x) (rtr_pre g.e0.h rr)
    | ex z =>
      rw [hm] at q
      intro cls d σ' F' H' x kp xz
      obtain ⟨Dz, m1, rfl, m2⟩ := id xz
      unfold tryM at q
      simp only at q
      cases eb : subs l z.c with
      | none => rw [eb] at q; exact q.elim
      | some b =>
        rw [eb] at q
        have hin : (z.c, b) ∈ l := lookup_in eb
        obtain ⟨D1, m3, m4⟩ := hsub _ _ hin
        rw [m1] at m3; cases m3
        refine ⟨b, m4, fun hb2 a _ => ?_, fun hb2 => ?_⟩
        · subst hb2
          refine ⟨E, F', h, ?_, q⟩
          refine sg_data (g.e0.trans x) (fun i hi => (kp i (hjs i (by rw [← h]; exact hi))).trans (g.kp i hi)) (noOwn_kept hno) fun i s e => ?_
          obtain ⟨u, h1, h2⟩ := kept_get e
          obtain ⟨ov, e1, r⟩ := gd i u h1
          rcases h2 with rfl | ⟨rfl, hj⟩
          · have hi : i < Γ.length := (List.getElem?_eq_some_iff.mp h1).1
            obtain ⟨ov2, e2, _⟩ := gd (Γ.length - 1) _ (List.getElem?_eq_getElem (by omega))
            have e3 := (kp (Γ.length - 1) hlast).trans e2
            have := (List.getElem?_eq_some_iff.mp e3).1
            exact ⟨_, List.getElem?_eq_getElem (by omega), True.intro⟩
          · rw [Nat.zero_add] at hj
            exact ⟨ov, (kp i hj).trans e1, sd_mono x.f r⟩
        · subst hb2
          exact q (.ref Dz) d σ' F' H' (g.e0.trans x) (fun i hi => (kp i (hjs i (by rw [← h]; exact hi))).trans (g.kp i hi)) xz
end
end Gm
set_option Elab.async false
set_option linter.all false
set_option maxRecDepth 100000
set_option maxHeartbeats 4000000
namespace Gm
open PySem PySem.Spec L2

section
variable {X : Cx} {W : WX} {Γ : Ctx} {a b c e : Expr} {pos p p2 q : Pos} {t : Ty} {F H : Hp}
/-! ## tuples joined, cut -/
theorem e_catT {m1 m2 : Mx (List t.den)} (ha : EM X W Γ a (.vtup t) m1) (hb : EM X W Γ b (.vtup t) m2) : EM X W Γ (.BinOp a .Add b pos) (.vtup t) (m1 >>= fun x => m2 >>= fun y => ofO (catL x y)) := e_bin (t1 := .vtup t) (t2 := .vtup t) (r := .d (.vtup t)) (g := catL) op_catA (fun x y z e v w F H Q s r1 r2 k => by
  unfold catL at e
  by_cases h : x.length + y.length ≤ sizeLine
  · rw [if_pos h] at e
    cases e
    obtain ⟨p, ws, e1, sq1, rr1⟩ := r1
    cases (List.cons.inj e1).1
    obtain ⟨q, zs, e2, sq2, rr2⟩ := r2
    cases (List.cons.inj e2).1
    refine ⟨p, q, ws, zs, rfl, rfl, sqT_same s sq1, sqT_same s sq2, by rw [← rr1.len, ← rr2.len]; exact h, fun e => ?_, fun _ e => ?_, fun _ _ l nl => ?_⟩
    · subst e
      refine k (.ref q) F H (Ext.refl s) ⟨q, zs, rfl, sq2, ?_⟩
      cases x with
      | nil => exact rr2
      | cons _ _ => exact rr1.elim
    · subst e
      refine k (.ref p) F H (Ext.refl s) ⟨p, ws, rfl, sq1, ?_⟩
      cases y with
      | nil => rw [List.append_nil]; exact rr1
      | cons _ _ => exact rr2.elim
    · have e2 := Ext.new (o := .tup (ws ++ zs)) s nl
      exact k (.ref l) _ _ e2 ⟨l, ws ++ zs, rfl, SqT.of upd_same, (rr1.app rr2).imp fun y v z => rl_mono e2.f t y [v] z⟩
  · rw [if_neg h] at e; cases e) ha hb
theorem e_slT {lo hi : Option Expr} {m1 : Mx (List t.den)} {ml mh : Mx (Option Int)} (ha : EM X W Γ a (.vtup t) m1) (hl : EP' X W Γ lo ml) (hh : EP' X W Γ hi mh) : EM X W Γ (.Subscript a (.Slice lo hi none p2) pos) (.vtup t) (m1 >>= fun x => ml >>= fun l => mh >>= fun u => .ok (cut x l u)) :=
  sl_of (t1 := .vtup t) (r := .d (.vtup t)) (k := fun x l u => .ok (cut x l u)) sl_tupA (fun x l u v F H σ Q s r1 k => by
    obtain ⟨p, ws, e, sq, rr⟩ := r1
    cases (List.cons.inj e).1
    refine ⟨p, ws, rfl, sqT_same s sq, fun hw => ?_, fun _ n nn => ?_⟩
    · refine k (.ref p) F H (Ext.refl s) ⟨p, ws, rfl, sq, ?_⟩
      have e1 : cut x l u = x := by
        unfold cut
        rw [rr.len, hw.1, hw.2, List.drop_zero, Nat.sub_zero, ← rr.len, List.take_length]
      rw [e1]; exact rr
    · have e2 := Ext.new (o := .tup (cutV ws l u)) s nn
      exact k (.ref n) _ _ e2 ⟨n, _, rfl, SqT.of upd_same, (cut_cutV (R := fun y v => rl X.K X.mg t y [v] F) rr l u).imp fun y v z => rl_mono e2.f t y [v] z⟩) ha hl hh
theorem e_tupU {fs : Ty} {m : Mx fs.den} (hg : Gl X "tuple") (hm : X.mg "tuple" = none) (ha : EM X W Γ a (.tup fs) m) (hs : starEach [a] X.env = (false, eval a X.env) :: starEach [] X.env := by rfl) : EM X W Γ (.Call (.Name "tuple" q) [a] [] pos) (.tup fs) m :=
  pe_imp (pe_callTy call_tuple_of hg hm (by decide +kernel) (ea_one ha hs) (he := hs)) fun σ H Q ⟨F, s, d, p⟩ => ⟨F, s, d, p.mono fun x px vs F1 H1 e1 r1 => by
    obtain ⟨a', ws, rfl, sq, rr⟩ := r1
    exact ⟨a', ws, rfl, .inr ⟨sqT_same e1.i sq, px (.ref a') F1 H1 e1 ⟨a', ws, rfl, sq, rr⟩⟩⟩⟩
/-- (a, b, ..) as a tuple of one kind -/
theorem e_vt {es : List Expr} {n k : Nat} {m : Mx (List t.den)} (h : EL X W Γ es t n m) (hl : Nat.ble n 1000 = true) : EM X W Γ (.Tuple es k pos) (.vtup t) m := pe_imp (pe_tup h) fun σ H Q ⟨F, s, d, q⟩ =>
  ⟨F, s, d, q.mono fun x px vs F1 H1 e1 r1 hn => ⟨Nat.le_trans (by rw [hn]; exact Nat.le_of_ble_eq_true hl) (by decide : 1000 ≤ sizeLine), fun p np => by
    have e2 := Ext.new (o := .tup vs) e1.i np
    exact px (.ref p) _ _ (e1.trans e2) ⟨p, vs, rfl, SqT.of upd_same, r1.imp fun y v z => rl_mono e2.f t y [v] z⟩⟩⟩
end
end Gm
set_option Elab.async false
set_option linter.all false
set_option maxRecDepth 100000
set_option maxHeartbeats 4000000
namespace Gm
open PySem PySem.Spec L2

/-! ## what the top has written: defs by where they stand, facts as tests -/
structure Df where
  loc : PySem.W.Frag → Addr
  name : Str
  qual : Str
  params : Arguments
  body : List Stmt
  scope : Scope
  dfl : PySem.W.Frag → List V
  kwd : PySem.W.Frag → List (Str × V)
def fnAt (K : PySem.W.Frag) (f : Addr) : He.FnW := match K.lookup f with
  | some ⟨_, _, .func d, _⟩ => some (d.name, d.qualname, d.params, d.body, d.scope, d.globals, d.closure, d.builtins)
  | _ => none
def Df.want (d : Df) : He.FnW := some (d.name, d.qual, d.params, .stmts d.body, d.scope, mainGlobals, [], builtinsNs)
def Df.good (K : PySem.W.Frag) (d : Df) : Bool := PySem.W.keepIn K (.ref (d.loc K)) && (match K.lookup (d.loc K) with
  | some ⟨_, _, .func q, _⟩ => PySem.W.codeIn K q.code d.qual && (He.dflB K q.defaults (d.dfl K) && He.kwdB K q.kwdefaults (d.kwd K))
  | _ => false)
theorem Df.fun_ {K : PySem.W.Frag} {d : Df} (e : fnAt K (d.loc K) = d.want) (c : d.good K = true) : ∃ fd, FunD K d.name d.qual d.params d.body d.scope (d.dfl K) (d.kwd K) (d.loc K) fd := by
  unfold Df.good at c
  rw [Bool.and_eq_true] at c
  obtain ⟨kp, c⟩ := c
  unfold fnAt Df.want at e
  cases hq : K.lookup (d.loc K) with
  | none => rw [hq] at c; cases c
  | some ob =>
    obtain ⟨oc, od, dt, sl⟩ := ob
    rw [hq] at c e
    cases dt with
    | func q =>
      have c : (PySem.W.codeIn K q.code d.qual && (He.dflB K q.defaults (d.dfl K) && He.kwdB K q.kwdefaults (d.kwd K))) = true := c
      rw [Bool.and_eq_true, Bool.and_eq_true] at c
      obtain ⟨k1, k2, k3⟩ := c
      obtain ⟨n1, n2, n3, n4, n5, n6, n7, n8, n9, n10, n11, n12, n13, n14, n15⟩ := q
      have e : (some (n1, n2, n3, n4, n5, n6, n7, n15) : He.FnW) = some (d.name, d.qual, d.params, .stmts d.body, d.scope, mainGlobals, [], builtinsNs) := e
      have e := Option.some.inj e
      simp only [Prod.mk.injEq] at e
      obtain ⟨h1, h2, h3, h4, h5, h6, h7, h8⟩ := e
      subst h1 h2 h3 h4 h5 h6 h7 h8
      exact ⟨_, ⟨oc, od, n8, n9, n10, n11, n12, n13, n14, sl, rfl, hq, k1, He.dflB_ok k2, He.kwdB_ok k3⟩, kp⟩
    | _ => cases c
abbrev Fact : Type := PySem.W.Frag → Bool
abbrev Ob : Type := Bool × List He.FnW
def obF (fa : List Fact) (fn : List Df) (K : PySem.W.Frag) : Ob := ((fa.all fun f => f K) && fn.all fun d => d.good K, fn.map fun d => fnAt K (d.loc K))
def vaF (fn : List Df) : Ob := (true, fn.map Df.want)
def Told (fa : List Fact) (fn : List Df) (K : PySem.W.Frag) : Prop := obF fa fn K = vaF fn
def obFG (n : Nat) (fa : List Fact) (fn : List Df) (g : Addr → Option Obj) : Ob := obF fa fn (He.frG g (cStatics :: He.asD g n))
def hookF (n : Nat) (fa : List Fact) (fn : List Df) : PySem.W.Hook where
  α := Ob
  obs := fun s => obFG n fa fn s.heap.get?
  val := fun _ => vaF fn
  says := fun _ h => ∃ K : PySem.W.Frag, K.In h ∧ Told fa fn K
  of := fun _ _ e => ⟨_, He.frG_in, e⟩
  keeps := fun _ _ _ ⟨K, hK, c⟩ k => ⟨K, PySem.W.Frag.In.keeps hK k, c⟩
theorem obFG_eq {n : Nat} {fa : List Fact} {fn : List Df} {g : Addr → Option Obj} {s : Shared} (h : ∀ a, g a = s.heap.get? a) : obFG n fa fn g = (hookF n fa fn).obs s := by
  have e : g = s.heap.get? := funext h
  rw [e]; rfl
section
variable {fa : List Fact} {fn : List Df} {K : PySem.W.Frag}
theorem Told.fact (c : Told fa fn K) (i : Nat) {f : Fact} (h : fa[i]? = some f) : f K = true := by
  have e := congrArg Prod.fst c
  have e : ((fa.all fun f => f K) && fn.all fun d => d.good K) = true := e
  rw [Bool.and_eq_true] at e
  exact List.all_eq_true.mp e.1 f (List.mem_iff_getElem?.mpr ⟨i, h⟩)
theorem Told.def_ (c : Told fa fn K) (i : Nat) {d : Df} (h : fn[i]? = some d) : ∃ fd, FunD K d.name d.qual d.params d.body d.scope (d.dfl K) (d.kwd K) (d.loc K) fd := by
  have e := congrArg Prod.fst c
  have e : ((fa.all fun f => f K) && fn.all fun d => d.good K) = true := e
  rw [Bool.and_eq_true] at e
  have e2 := congrArg Prod.snd c
  have e2 : fn.map (fun d => fnAt K (d.loc K)) = fn.map Df.want := e2
  refine Df.fun_ ?_ (List.all_eq_true.mp e.2 d (List.mem_iff_getElem?.mpr ⟨i, h⟩))
  have e3 := congrArg (fun l => l[i]?) e2
  simp only [List.getElem?_map, h, Option.map_some, Option.some.injEq] at e3
  exact e3
end
/-! ## places -/
def recAt (K : PySem.W.Frag) (p : Addr) (T : String) : Addr := match PySem.W.recIn K p T with
  | some (.ref g :: _) => g
  | _ => 0
/-- a property's getter, a static method's def -/
abbrev propAt (K : PySem.W.Frag) (C m : Str) : Addr := recAt K (He.ma K (He.ga K C) m) "property"
abbrev statAt (K : PySem.W.Frag) (C m : Str) : Addr := recAt K (He.ma K (He.ga K C) m) "staticmethod"
abbrev methAt (K : PySem.W.Frag) (C m : Str) : Addr := He.ma K (He.ga K C) m
theorem recAt_ok {K : PySem.W.Frag} {p : Addr} {T : String} (h : (match PySem.W.recIn K p T with | some (.ref _ :: _) => true | _ => false) = true) : ∃ rest, PySem.W.recIn K p T = some (.ref (recAt K p T) :: rest) := by
  unfold recAt
  split at h
  · rename_i g r e; exact ⟨r, by rw [e]⟩
  · cases h
/-! ## facts -/
def fProp (C m : Str) : Fact := fun K => decide (PySem.W.findIn K (.ref (He.ga K C)) m = some (some (.ref (methAt K C m)))) && (decide (PySem.W.specialIn K (.ref (methAt K C m)) "__get__" = some (some (.builtin "property.__get__"))) &&
  (decide (PySem.W.takesIn K (.ref (methAt K C m)) = some true) && (match PySem.W.recIn K (methAt K C m) "property" with | some (.ref _ :: _) => true | _ => false)))
theorem fProp_ok {K : PySem.W.Frag} {C m : Str} (h : fProp C m K = true) : PropOf K (He.ga K C) m (methAt K C m) (propAt K C m) := by
  unfold fProp at h
  rw [Bool.and_eq_true, Bool.and_eq_true, Bool.and_eq_true] at h
  exact ⟨of_decide_eq_true h.1, of_decide_eq_true h.2.1, of_decide_eq_true h.2.2.1, recAt_ok h.2.2.2⟩
def fRead (C : Str) : Fact := fun K => PySem.W.readsIn K (He.ga K C) (.type "type") && decide (PySem.W.specialIn K (.ref (He.ga K C)) "__getattribute__" = some (some (.builtin "type.__getattribute__")))
theorem fRead_ok {K : PySem.W.Frag} {C : Str} (h : fRead C K = true) : ClX.CRead K (He.ga K C) (.type "type") := by
  unfold fRead at h
  rw [Bool.and_eq_true] at h
  exact ⟨h.1, of_decide_eq_true h.2⟩
/-- a whole number of a class -/
def fInt (C m : Str) (i : Int) : Fact := fun K => match PySem.W.findCls K (.ref (He.ga K C)) (.type "type") m with
  | some (.val (.int j _)) => decide (j = i)
  | _ => false
theorem fInt_ok {K : PySem.W.Frag} {C m : Str} {i : Int} (h : fInt C m i K = true) : ∃ u, ClX.CVal K (He.ga K C) (.type "type") m (.int i) u := by
  unfold fInt at h
  split at h
  · rename_i j t e
    have := of_decide_eq_true h
    subst this
    exact ⟨_, e, ⟨_, rfl⟩⟩
  · cases h
def fStat (C m : Str) : Fact := fun K => (match PySem.W.findCls K (.ref (He.ga K C)) (.type "type") m with
  | some (.get (.builtin g) (.ref p) .none (.ref D)) => decide (g = "staticmethod.__get__") && (decide (p = methAt K C m) && decide (D = He.ga K C))
  | _ => false) && ((match PySem.W.recIn K (methAt K C m) "staticmethod" with | some (.ref _ :: _) => true | _ => false) && PySem.W.keepIn K (.ref (statAt K C m)))
theorem fStat_ok {K : PySem.W.Frag} {C m : Str} (h : fStat C m K = true) : SMet K (He.ga K C) (.type "type") m (methAt K C m) (statAt K C m) := by
  unfold fStat at h
  rw [Bool.and_eq_true, Bool.and_eq_true] at h
  obtain ⟨h1, h2, h3⟩ := h
  refine ⟨?_, recAt_ok h2, h3⟩
  split at h1
  · rename_i g p D e
    rw [Bool.and_eq_true, Bool.and_eq_true] at h1
    rw [e, of_decide_eq_true h1.1, of_decide_eq_true h1.2.1, of_decide_eq_true h1.2.2]
  · cases h1
/-- a keyword-only default that is an object -/
def kwAt (K : PySem.W.Frag) (f : Addr) (x : Str) : Addr := match K.lookup f with
  | some ⟨_, _, .func d, _⟩ => (match d.kwdefaults with
    | .ref D => (match PySem.W.nsIn K D x with
      | some (some (.ref q)) => q
      | _ => 0)
    | _ => 0)
  | _ => 0
/-- the empty tuple -/
def fTup0 (p : PySem.W.Frag → Addr) : Fact := fun K => match K.lookup (p K) with
  | some ⟨.type c, _, .seq its _, _⟩ => decide (c = "tuple") && decide (its.size = 0)
  | _ => false
theorem fTup0_ok {K : PySem.W.Frag} {p : PySem.W.Frag → Addr} (h : fTup0 p K = true) : ∀ H, SqT K H (p K) [] := by
  unfold fTup0 at h
  cases hq : K.lookup (p K) with
  | none => rw [hq] at h; cases h
  | some o =>
    obtain ⟨oc, od, dt, sl⟩ := o
    rw [hq] at h
    cases oc with
    | type c =>
      cases dt with
      | seq its n =>
        have h : (decide (c = "tuple") && decide (its.size = 0)) = true := h
        rw [Bool.and_eq_true] at h
        have e : its = #[] := Array.size_eq_zero_iff.mp (of_decide_eq_true h.2)
        subst e
        exact fun H => .inr ⟨_, #[], n, hq, congrArg Value.type (of_decide_eq_true h.1), rfl, by decide, .nil⟩
      | _ => cases h
    | _ => cases dt <;> cases h
/-! ## keywords' places -/
def pick {α : Type} (l : List (Nat × Nat)) (us mv ws : List α) : List α := l.filterMap fun p => match p.1 with
  | 0 => us[p.2]?
  | 1 => mv[p.2]?
  | _ => ws[p.2]?
theorem vals_at {xs : List V} {us : List Value} (r : Vals xs us) : ∀ i : Nat, (xs[i]? = none ∧ us[i]? = none) ∨ ∃ v u, xs[i]? = some v ∧ us[i]? = some u ∧ RelV v u := by
  induction r with
  | nil => exact fun i => .inl ⟨rfl, rfl⟩
  | cons h t ih =>
    intro i
    cases i with
    | zero => exact .inr ⟨_, _, rfl, rfl, h⟩
    | succ i => simpa using ih i
theorem pick_rel {l : List (Nat × Nat)} {vs mz zs : List V} {us mv ws : List Value} (h1 : Vals vs us) (h2 : Vals mz mv) (h3 : Vals zs ws) : Vals (pick l vs mz zs) (pick l us mv ws) := by
  induction l with
  | nil => exact .nil
  | cons p l ih =>
    unfold pick at ih ⊢
    rw [List.filterMap_cons, List.filterMap_cons]
    obtain ⟨a, b⟩ := p
    match a with
    | 0 =>
      rcases vals_at h1 b with ⟨e1, e2⟩ | ⟨v, u, e1, e2, r⟩
      · simp only [e1, e2]; exact ih
      · simp only [e1, e2]; exact .cons r ih
    | 1 =>
      rcases vals_at h2 b with ⟨e1, e2⟩ | ⟨v, u, e1, e2, r⟩
      · simp only [e1, e2]; exact ih
      · simp only [e1, e2]; exact .cons r ih
    | a + 2 =>
      rcases vals_at h3 b with ⟨e1, e2⟩ | ⟨v, u, e1, e2, r⟩
      · simp only [e1, e2]; exact ih
      · simp only [e1, e2]; exact .cons r ih
end Gm
set_option Elab.async false
set_option linter.all false
set_option maxRecDepth 100000
set_option maxHeartbeats 4000000
namespace Lw
open PySem PySem.Spec L2 Gm
abbrev ns_Board : List Str := ["nodes", "switches", "relays", "lamps", "contacts"]
abbrev fo_Board : Ow := (.pr (.d (.vtup .str)) (.pr (.d (.vtup .str)) (.pr (.d (.vtup (.tup (.pr .str (.pr .str .str))))) (.pr (.d (.vtup (.tup (.pr .str (.pr .str .str))))) (.pr (.d (.vtup (.tup (.pr .str (.pr .str (.pr (.opt .str) (.pr .str .str))))))) .nl)))))
abbrev D_Board : Type := (List Str) × (List Str) × (List (Str × Str × Str)) × (List (Str × Str × Str)) × (List (Str × Str × (Option Str) × Str × Str)) × Unit
def l_row_b1 (a_cell : Int) (s9 : ((List Int) × Int)) (k10 : Int) : Mx ((List Int) × Int) :=
  ((ofO (powO (10 : Int) (18 : Int))) >>= fun v11 => .ok (decide (v11 ≤ (if a_cell < 0 then -a_cell else a_cell)))) >>= fun v25 => if v25 then (ofO (modO s9.2 (1009 : Int))) >>= fun v14 => ofO (appO s9.1 v14) >>= fun row_here_12 => (ofO (divO s9.2 (1009 : Int))) >>= fun rest_13 => .ok (row_here_12, rest_13) else (((ofO (mulO s9.2 (48271 : Int))) >>= fun v15 => (ofO (mulO (k10 + (1 : Int)) (69621 : Int))) >>= fun v16 => .ok (v15 + v16)) >>= fun v17 => ofO (modO v17 (2147483647 : Int))) >>= fun mixed_18 => (((ofO (mulO mixed_18 (16807 : Int))) >>= fun v19 => (ofO (mulO (271 : Int) (k10 + (3 : Int)))) >>= fun v20 => .ok (v19 + v20)) >>= fun v21 => ofO (modO v21 (2147483629 : Int))) >>= fun mixed_22 => (ofO (modO mixed_22 (1009 : Int))) >>= fun v24 => ofO (appO s9.1 v24) >>= fun row_here_23 => .ok (row_here_23, s9.2)
def l_row (a_cell : Int) (a_many : Int) : Mx (List Int) :=
  (.ok ([] : List Int)) >>= fun row_here_7 => (.ok (if a_cell < 0 then -a_cell else a_cell)) >>= fun rest_8 => ((ofO (ranO 0 a_many)) >>= fun v27 => loopS v27 (row_here_7, rest_8) (l_row_b1 a_cell)) >>= fun s26 => .ok s26.1
def l_numbers_b2 (s28 : (List Int)) (number29 : Int) : Mx (List Int) :=
  ofO (appO s28 number29) >>= fun numbers_here_30 => .ok numbers_here_30
def l_numbers_b1 (each_3 : Int) (s5 : (List Int)) (cell6 : Int) : Mx (List Int) :=
  ((l_row cell6 each_3) >>= fun v32 => loopS v32 s5 l_numbers_b2) >>= fun s31 => .ok s31
def l_numbers_b3 (s34 : (List Int)) : Mx (List Int) :=
  ofO (appO s34 (0 : Int)) >>= fun numbers_here_35 => .ok numbers_here_35
def l_numbers_b3c (a_many : Int) (s34 : (List Int)) : Mx Bool :=
  .ok (decide ((s34.length : Int) < a_many))
def l_numbers (a_script : (List Int)) (a_many : Int) : Mx (List Int) :=
  (.ok (cut a_script none (some (63 : Int)))) >>= fun cells_1 => ((ofO (divO a_many (if (cells_1.length : Int) > (1 : Int) then (cells_1.length : Int) else (1 : Int)))) >>= fun v2 => .ok ((1 : Int) + v2)) >>= fun each_3 => (.ok ([] : List Int)) >>= fun numbers_here_4 => (loopS cells_1 numbers_here_4 (l_numbers_b1 each_3)) >>= fun s33 => whileS fuel s33 (l_numbers_b3c a_many) l_numbers_b3 >>= fun s36 => .ok (cut s36 none (some a_many))
def g_Board_is_name (a_text : Str) : Mx Bool :=
  (((ofO (lenS a_text)) >>= fun v75 => if (decide ((1 : Int) ≤ v75)) then .ok (decide (v75 ≤ (12 : Int))) else .ok false) >>= fun v76 => .ok (!v76)) >>= fun v79 => if v79 then .ok false else (compO (signs a_text) (compF (fun char77 => .ok true) (fun char77 => ofO (inSO char77 ("abcdefghijklmnopqrstuvwxyz0123456789" : Str))))) >>= fun v78 => .ok (v78.all id)
def g_are_names_b1 (a_names_ : (List Str)) (s88 : Unit) (p89 : (Int × Str)) : Mx (Lp Unit Bool) :=
  (((g_Board_is_name p89.2) >>= fun v90 => .ok (!v90)) >>= fun v91 => if v91 then .ok true else .ok (decide (p89.2 ∈ (cut a_names_ none (some p89.1))))) >>= fun v93 => if v93 then .ok (Lp.out false) else .ok (Lp.go ())
def g_are_names (a_names_ : (List Str)) (a_least : Int) (a_most : Int) : Mx Bool :=
  ((if (decide (a_least ≤ (a_names_.length : Int))) then .ok (decide ((a_names_.length : Int) ≤ a_most)) else .ok false) >>= fun v87 => .ok (!v87)) >>= fun v96 => if v96 then .ok false else (loopF (enumL a_names_) () (g_are_names_b1 a_names_)) >>= fwk (fun s94 => .ok true) (fun y95 => y95)
def g_is_between (a_one : Str) (a_other : Str) (a_nodes : (List Str)) : Mx Bool :=
  if (decide (a_one ∈ a_nodes)) then if (decide (a_other ∈ a_nodes)) then .ok (!decide (a_one = a_other)) else .ok false else .ok false
def g_are_loads_b1 (a_nodes : (List Str)) (s108 : Unit) (p109 : (Str × Str × Str)) : Mx (Lp Unit Bool) :=
  ((g_is_between p109.2.1 p109.2.2 a_nodes) >>= fun v110 => .ok (!v110)) >>= fun v112 => if v112 then .ok (Lp.out false) else .ok (Lp.go ())
def g_are_loads (a_loads : (List (Str × Str × Str))) (a_nodes : (List Str)) : Mx Bool :=
  (loopF a_loads () (g_are_loads_b1 a_nodes)) >>= fwk (fun s113 => .ok true) (fun y114 => y114)
def g_is_contact (a_contact : (Str × Str × (Option Str) × Str × Str)) (a_nodes : (List Str)) (a_movers : (List Str)) : Mx Bool :=
  (.ok a_contact) >>= fun p120 => (((g_is_between p120.1 p120.2.1 a_nodes) >>= fun v121 => .ok (!v121)) >>= fun v122 => if v122 then .ok true else if (!decide (p120.2.2.2.1 ∈ [("make" : Str), ("break" : Str)])) then .ok true else .ok (!decide (p120.2.2.2.2 ∈ [("both" : Str), ("forward" : Str)]))) >>= fun v124 => if v124 then .ok false else if p120.2.2.1.isNone then .ok (decide (p120.2.2.2.1 = ("make" : Str))) else (getO p120.2.2.1) >>= fun v123 => .ok (decide (v123 ∈ a_movers))
def g_Board_init_b1 (a_nodes : (List Str)) (movers_101 : (List Str)) (s118 : Unit) (contact119 : (Str × Str × (Option Str) × Str × Str)) : Mx Unit :=
  ((g_is_contact contact119 a_nodes movers_101) >>= fun v125 => .ok (!v125)) >>= fun v126 => if v126 then .ex ⟨"InvalidBoard", "", .n⟩ else .ok ()
def g_Board_init (a_nodes : (List Str)) (a_lamps : (List (Str × Str × Str))) (a_switches : (List Str)) (a_relays : (List (Str × Str × Str))) (a_contacts : (List (Str × Str × (Option Str) × Str × Str))) : Mx D_Board :=
  (((g_are_names a_nodes (2 : Int) (16 : Int)) >>= fun v97 => .ok (!v97)) >>= fun v98 => if v98 then .ok true else .ok (decide ((6 : Int) < (a_switches.length : Int)))) >>= fun v139 => if v139 then .ex ⟨"InvalidBoard", "", .n⟩ else ((compO a_relays (compF (fun relay99 => .ok true) (fun relay99 => .ok relay99.1))) >>= fun v100 => ofO (catL a_switches v100)) >>= fun movers_101 => (((g_are_names movers_101 (0 : Int) ((6 : Int) + (8 : Int))) >>= fun v102 => .ok (!v102)) >>= fun v103 => if v103 then .ok true else .ok (decide ((8 : Int) < (a_relays.length : Int)))) >>= fun v138 => if v138 then .ex ⟨"InvalidBoard", "", .n⟩ else ((((compO a_lamps (compF (fun lamp104 => .ok true) (fun lamp104 => .ok lamp104.1))) >>= fun v105 => .ok (v105, (1 : Int), (8 : Int), ())) >>= fun v106 => g_are_names v106.1 v106.2.1 v106.2.2.1) >>= fun v107 => .ok (!v107)) >>= fun v137 => if v137 then .ex ⟨"InvalidBoard", "", .n⟩ else (((g_are_loads a_relays a_nodes) >>= fun v115 => .ok (!v115)) >>= fun v117 => if v117 then .ok true else (g_are_loads a_lamps a_nodes) >>= fun v116 => .ok (!v116)) >>= fun v136 => if v136 then .ex ⟨"InvalidBoard", "", .n⟩ else if (decide ((40 : Int) < (a_contacts.length : Int))) then .ex ⟨"InvalidBoard", "", .n⟩ else (loopS a_contacts () (g_Board_init_b1 a_nodes movers_101)) >>= fun s127 => (.ok a_nodes) >>= fun nodes_128 => (.ok a_switches) >>= fun switches_129 => (compO a_relays (compF (fun relay130 => .ok true) (fun relay130 => .ok relay130))) >>= fun relays_131 => (compO a_lamps (compF (fun lamp132 => .ok true) (fun lamp132 => .ok lamp132))) >>= fun lamps_133 => (compO a_contacts (compF (fun contact134 => .ok true) (fun contact134 => .ok contact134))) >>= fun contacts_135 => .ok (nodes_128, switches_129, relays_131, lamps_133, contacts_135, ())
def g_Board_movers (a_self : D_Board) : Mx (List Str) :=
  (compO a_self.2.2.1 (compF (fun relay154 => .ok true) (fun relay154 => .ok relay154.1))) >>= fun v155 => ofO (catL a_self.2.1 v155)
def l_relay (a_text : Str) (a_other : Str) : Mx Bool :=
  (((ofO (catO ("e" : Str) a_other)) >>= fun v84 => .ok (v84 :: ([] : List Str))) >>= fun v85 => .ok (a_other :: v85)) >>= fun nodes_86 => (tryM [("InvalidBoard", true)] ((((((((ofO (catO ("e" : Str) a_other)) >>= fun v140 => .ok (a_other, v140)) >>= fun v141 => .ok (a_text, v141)) >>= fun v142 => .ok (v142 :: ([] : List (Str × Str × Str)))) >>= fun v147 => (((((ofO (catO ("e" : Str) a_other)) >>= fun v143 => .ok (a_other, v143)) >>= fun v144 => .ok (("l" : Str), v144)) >>= fun v145 => .ok (v145 :: ([] : List (Str × Str × Str)))) >>= fun v146 => .ok (v146, ())) >>= fun v148 => .ok (v147, v148)) >>= fun v149 => .ok (nodes_86, v149)) >>= fun v150 => g_Board_init v150.1 v150.2.2.1 [] v150.2.1 []) >>= fun board_151 => .ok (Fw.go board_151)) (.ok (Fw.out false)) : Mx (Fw D_Board Bool)) >>= fwk (fun s153 => (noEx (g_Board_movers s153)) >>= fun v156 => .ok (decide (v156 = (a_text :: ([] : List Str))))) (fun y157 => y157)
def g_are_loads_2_b1 (a_nodes : (List Str)) (s170 : Unit) (p171 : (Str × Str × Str)) : Mx (Lp Unit Bool) :=
  ((g_is_between p171.2.1 p171.2.2 a_nodes) >>= fun v172 => .ok (!v172)) >>= fun v174 => if v174 then .ok (Lp.out false) else .ok (Lp.go ())
def g_are_loads_2 (a_loads : (List (Str × Str × Str))) (a_nodes : (List Str)) : Mx Bool :=
  (loopF a_loads () (g_are_loads_2_b1 a_nodes)) >>= fwk (fun s175 => .ok true) (fun y176 => y176)
def g_Board_init_2_b1 (a_nodes : (List Str)) (movers_163 : (List Str)) (s180 : Unit) (contact181 : (Str × Str × (Option Str) × Str × Str)) : Mx Unit :=
  ((g_is_contact contact181 a_nodes movers_163) >>= fun v182 => .ok (!v182)) >>= fun v183 => if v183 then .ex ⟨"InvalidBoard", "", .n⟩ else .ok ()
def g_Board_init_2 (a_nodes : (List Str)) (a_lamps : (List (Str × Str × Str))) (a_switches : (List Str)) (a_relays : (List (Str × Str × Str))) (a_contacts : (List (Str × Str × (Option Str) × Str × Str))) : Mx D_Board :=
  (((g_are_names a_nodes (2 : Int) (16 : Int)) >>= fun v159 => .ok (!v159)) >>= fun v160 => if v160 then .ok true else .ok (decide ((6 : Int) < (a_switches.length : Int)))) >>= fun v196 => if v196 then .ex ⟨"InvalidBoard", "", .n⟩ else ((compO a_relays (compF (fun relay161 => .ok true) (fun relay161 => .ok relay161.1))) >>= fun v162 => ofO (catL a_switches v162)) >>= fun movers_163 => (((g_are_names movers_163 (0 : Int) ((6 : Int) + (8 : Int))) >>= fun v164 => .ok (!v164)) >>= fun v165 => if v165 then .ok true else .ok (decide ((8 : Int) < (a_relays.length : Int)))) >>= fun v195 => if v195 then .ex ⟨"InvalidBoard", "", .n⟩ else ((((compO a_lamps (compF (fun lamp166 => .ok true) (fun lamp166 => .ok lamp166.1))) >>= fun v167 => .ok (v167, (1 : Int), (8 : Int), ())) >>= fun v168 => g_are_names v168.1 v168.2.1 v168.2.2.1) >>= fun v169 => .ok (!v169)) >>= fun v194 => if v194 then .ex ⟨"InvalidBoard", "", .n⟩ else (((g_are_loads_2 a_relays a_nodes) >>= fun v177 => .ok (!v177)) >>= fun v179 => if v179 then .ok true else (g_are_loads a_lamps a_nodes) >>= fun v178 => .ok (!v178)) >>= fun v193 => if v193 then .ex ⟨"InvalidBoard", "", .n⟩ else if (decide ((40 : Int) < (a_contacts.length : Int))) then .ex ⟨"InvalidBoard", "", .n⟩ else (loopS a_contacts () (g_Board_init_2_b1 a_nodes movers_163)) >>= fun s184 => (.ok a_nodes) >>= fun nodes_185 => (.ok a_switches) >>= fun switches_186 => (compO a_relays (compF (fun relay187 => .ok true) (fun relay187 => .ok relay187))) >>= fun relays_188 => (compO a_lamps (compF (fun lamp189 => .ok true) (fun lamp189 => .ok lamp189))) >>= fun lamps_190 => (compO a_contacts (compF (fun contact191 => .ok true) (fun contact191 => .ok contact191))) >>= fun contacts_192 => .ok (nodes_185, switches_186, relays_188, lamps_190, contacts_192, ())
def l_taken (a_nodes : (List Str)) (a_switches : (List Str)) (a_lamp : Str) : Mx Bool :=
  (tryM [("InvalidBoard", true)] (((((((((ofO (atI a_nodes (0 : Int))) >>= fun v197 => (ofO (atI a_nodes (1 : Int))) >>= fun v198 => .ok (v197, v198)) >>= fun v199 => .ok (a_lamp, v199)) >>= fun v200 => .ok (v200 :: ([] : List (Str × Str × Str)))) >>= fun v201 => .ok (v201, ())) >>= fun v202 => .ok (a_switches, v202)) >>= fun v203 => .ok (a_nodes, v203)) >>= fun v204 => g_Board_init_2 v204.1 v204.2.2.1 v204.2.1 [] []) >>= fun board_205 => .ok (Fw.go board_205)) (.ok (Fw.out false)) : Mx (Fw D_Board Bool)) >>= fwk (fun s207 => if (decide (s207.1 = a_nodes)) then .ok (decide (s207.2.1 = a_switches)) else .ok false) (fun y208 => y208)
def l_law_b1 (numbers_here_37 : (List Int)) (good_38 : Str) (s44 : Str) (k45 : Int) : Mx Str :=
  ((((ofO (atI numbers_here_37 ((1 : Int) + k45))) >>= fun v46 => ofO (modO v46 (36 : Int))) >>= fun v47 => ofO (atS good_38 v47)) >>= fun v48 => ofO (catO s44 v48)) >>= fun text_49 => .ok text_49
def l_law_b2 (good_38 : Str) (s70 : Bool) (char71 : Str) : Mx Bool :=
  (ofO ((inSO char71 good_38).map fun r => !r)) >>= fun v73 => if v73 then (.ok false) >>= fun due_72 => .ok due_72 else .ok s70
def l_law (a_script : (List Int)) : Mx Bool :=
  (l_numbers a_script (20 : Int)) >>= fun numbers_here_37 => (.ok ("abcdefghijklmnopqrstuvwxyz0123456789" : Str)) >>= fun good_38 => (.ok (" !\"#$&'()*+,-./0123456789:;<=>?@ABCDEFGHIJKLMNOPQRSTUVWXYZ[\\]^_`" : Str)) >>= fun all_chars_39 => (ofO (catO all_chars_39 ("abcdefghijklmnopqrstuvwxyz{|}~\n\t" : Str))) >>= fun all_chars_40 => (.ok ("" : Str)) >>= fun text_41 => ((((ofO (atI numbers_here_37 (0 : Int))) >>= fun v42 => ofO (modO v42 (15 : Int))) >>= fun v43 => ofO (ranO 0 v43)) >>= fun v226 => loopS v226 text_41 (l_law_b1 numbers_here_37 good_38)) >>= fun s50 => (((((ofO (atI numbers_here_37 (16 : Int))) >>= fun v51 => ofO (modO v51 (3 : Int))) >>= fun v52 => .ok (decide (v52 = (1 : Int)))) >>= fun v54 => if v54 then (ofO (lenS s50)) >>= fun v53 => .ok (decide ((0 : Int) < v53)) else .ok false) >>= fun v67 => if v67 then ((ofO (atI numbers_here_37 (17 : Int))) >>= fun v55 => (ofO (lenS s50)) >>= fun v56 => ofO (modO v55 v56)) >>= fun place_57 => (((ofO (slS s50 none (some place_57))) >>= fun v61 => (((ofO (atI numbers_here_37 (18 : Int))) >>= fun v58 => (ofO (lenS all_chars_40)) >>= fun v59 => ofO (modO v58 v59)) >>= fun v60 => ofO (atS all_chars_40 v60)) >>= fun v62 => ofO (catO v61 v62)) >>= fun v63 => (ofO (slS s50 (some (place_57 + (1 : Int))) none)) >>= fun v64 => ofO (catO v63 v64)) >>= fun text_65 => .ok text_65 else .ok s50 : Mx Str) >>= fun s66 => ((ofO (lenS s66)) >>= fun v68 => if (decide ((1 : Int) ≤ v68)) then .ok (decide (v68 ≤ (12 : Int))) else .ok false) >>= fun due_69 => (loopS (signs s66) due_69 (l_law_b2 good_38)) >>= fun s74 => (g_Board_is_name s66) >>= fun told_80 => (if (!true) then .ok true else .ok (!decide (told_80 = s74))) >>= fun v225 => if v225 then .ok false else (.ok ("q" : Str)) >>= fun other_81 => (if (decide (s66 = ("q" : Str))) then (.ok ("w" : Str)) >>= fun other_82 => .ok other_82 else .ok other_81 : Mx Str) >>= fun s83 => ((l_relay s66 s83) >>= fun v158 => .ok (!decide (v158 = s74))) >>= fun v224 => if v224 then .ok false else (((l_taken (s66 :: (s83 :: ([] : List Str))) ([] : List Str) ("l" : Str)) >>= fun v209 => .ok (!decide (v209 = s74))) >>= fun v211 => if v211 then .ok true else (l_taken (s83 :: (s66 :: ([] : List Str))) ([] : List Str) ("l" : Str)) >>= fun v210 => .ok (!decide (v210 = s74))) >>= fun v223 => if v223 then .ok false else ((((((ofO (catO ("e" : Str) s83)) >>= fun v212 => .ok (v212 :: ([] : List Str))) >>= fun v213 => .ok (s83 :: v213)) >>= fun v214 => .ok (v214, (s66 :: ([] : List Str)), ("l" : Str), ())) >>= fun v215 => l_taken v215.1 v215.2.1 v215.2.2.1) >>= fun v216 => .ok (decide (v216 = s74))) >>= fun v222 => if v222 then (((((ofO (catO ("e" : Str) s83)) >>= fun v217 => .ok (v217 :: ([] : List Str))) >>= fun v218 => .ok (s83 :: v218)) >>= fun v219 => .ok (v219, ([] : List Str), s66, ())) >>= fun v220 => l_taken v220.1 v220.2.1 v220.2.2.1) >>= fun v221 => .ok (decide (v221 = s74)) else .ok false
end Lw
set_option Elab.async false
set_option linter.all false
set_option maxRecDepth 100000
set_option maxHeartbeats 4000000
namespace Lw
open PySem PySem.Spec L2 Gm
abbrev topS (i : Nat) : Stmt := PySem.Challenge.pw_leverhouse_k09_names.main.body.getD i (.Pass ⟨0, 0, 0, 0⟩)
structure Fs where
  l_rowD : FuncData
  l_numbersD : FuncData
  g_Board_is_nameD : FuncData
  g_are_namesD : FuncData
  g_is_betweenD : FuncData
  g_are_loadsD : FuncData
  g_is_contactD : FuncData
  g_Board_initD : FuncData
  g_Board_moversD : FuncData
  l_relayD : FuncData
  l_takenD : FuncData
  l_lawD : FuncData
abbrev s_l_row : Stmt := topS 15
abbrev N_l_row : List Str := ["_law_cell", "_law_many", "_law_row_here", "_law_rest", "_law_k", "_law_mixed"]
theorem sc_l_row : FnScope N_l_row ["_law_cell", "_law_many"] (defScope s_l_row) := ⟨rfl, rfl, rfl, by decide +kernel, rfl, by decide +kernel, by decide +kernel⟩
abbrev s_l_numbers : Stmt := topS 16
abbrev N_l_numbers : List Str := ["_law_script", "_law_many", "_law_cells", "_law_each", "_law_numbers_here", "_law_cell", "_law_number"]
theorem sc_l_numbers : FnScope N_l_numbers ["_law_script", "_law_many"] (defScope s_l_numbers) := ⟨rfl, rfl, rfl, by decide +kernel, rfl, by decide +kernel, by decide +kernel⟩
abbrev s_g_Board_is_name : Stmt := inClass (topS 13) 6
abbrev N_g_Board_is_name : List Str := ["text", "char"]
theorem sc_g_Board_is_name : FnScope N_g_Board_is_name ["text"] (defScope s_g_Board_is_name) := ⟨rfl, rfl, rfl, by decide +kernel, rfl, by decide +kernel, by decide +kernel⟩
abbrev s_g_are_names : Stmt := topS 9
abbrev N_g_are_names : List Str := ["names", "least", "most", "number", "name"]
theorem sc_g_are_names : FnScope N_g_are_names ["names", "least", "most"] (defScope s_g_are_names) := ⟨rfl, rfl, rfl, by decide +kernel, rfl, by decide +kernel, by decide +kernel⟩
abbrev s_g_is_between : Stmt := topS 10
abbrev N_g_is_between : List Str := ["one", "other", "nodes"]
theorem sc_g_is_between : FnScope N_g_is_between ["one", "other", "nodes"] (defScope s_g_is_between) := ⟨rfl, rfl, rfl, by decide +kernel, rfl, by decide +kernel, by decide +kernel⟩
abbrev s_g_are_loads : Stmt := topS 11
abbrev N_g_are_loads : List Str := ["loads", "nodes", "name", "one", "other"]
theorem sc_g_are_loads : FnScope N_g_are_loads ["loads", "nodes"] (defScope s_g_are_loads) := ⟨rfl, rfl, rfl, by decide +kernel, rfl, by decide +kernel, by decide +kernel⟩
abbrev s_g_is_contact : Stmt := topS 12
abbrev N_g_is_contact : List Str := ["contact", "nodes", "movers", "one", "other", "mover", "when", "way"]
theorem sc_g_is_contact : FnScope N_g_is_contact ["contact", "nodes", "movers"] (defScope s_g_is_contact) := ⟨rfl, rfl, rfl, by decide +kernel, rfl, by decide +kernel, by decide +kernel⟩
abbrev s_g_Board_init : Stmt := inClass (topS 13) 5
abbrev N_g_Board_init : List Str := ["self", "nodes", "lamps", "switches", "relays", "contacts", "movers", "contact", "relay", "lamp"]
theorem sc_g_Board_init : FnScope N_g_Board_init ["self", "nodes", "lamps", "switches", "relays", "contacts"] (defScope s_g_Board_init) := ⟨rfl, rfl, rfl, by decide +kernel, rfl, by decide +kernel, by decide +kernel⟩
abbrev s_g_Board_movers : Stmt := inClass (topS 13) 9
abbrev N_g_Board_movers : List Str := ["self", "relay"]
theorem sc_g_Board_movers : FnScope N_g_Board_movers ["self"] (defScope s_g_Board_movers) := ⟨rfl, rfl, rfl, by decide +kernel, rfl, by decide +kernel, by decide +kernel⟩
abbrev s_l_relay : Stmt := topS 18
abbrev N_l_relay : List Str := ["_law_text", "_law_other", "_law_nodes", "_law_board", "-"]
theorem sc_l_relay : FnScope N_l_relay ["_law_text", "_law_other"] (defScope s_l_relay) := ⟨rfl, rfl, rfl, by decide +kernel, rfl, by decide +kernel, by decide +kernel⟩
abbrev s_l_taken : Stmt := topS 17
abbrev N_l_taken : List Str := ["_law_nodes", "_law_switches", "_law_lamp", "_law_board", "-"]
theorem sc_l_taken : FnScope N_l_taken ["_law_nodes", "_law_switches", "_law_lamp"] (defScope s_l_taken) := ⟨rfl, rfl, rfl, by decide +kernel, rfl, by decide +kernel, by decide +kernel⟩
abbrev s_l_law : Stmt := topS 19
abbrev N_l_law : List Str := ["_law_script", "_law_numbers_here", "_law_good", "_law_all_chars", "_law_text", "_law_k", "_law_place", "_law_due", "_law_char", "_law_told", "_law_other"]
theorem sc_l_law : FnScope N_l_law ["_law_script"] (defScope s_l_law) := ⟨rfl, rfl, rfl, by decide +kernel, rfl, by decide +kernel, by decide +kernel⟩
structure Tx (K : PySem.W.Frag) (mg : Str → Option Value) (a : Fs) : Prop where
  l_row : FunD K "_law_row" "_law_row" (defArgs s_l_row) (defBody s_l_row) (defScope s_l_row) [] [] (He.ga K "_law_row") a.l_rowD
  l_row_b : Binds K a.l_rowD ["_law_cell", "_law_many"] []
  l_numbers : FunD K "_law_numbers" "_law_numbers" (defArgs s_l_numbers) (defBody s_l_numbers) (defScope s_l_numbers) [] [] (He.ga K "_law_numbers") a.l_numbersD
  l_numbers_b : Binds K a.l_numbersD ["_law_script", "_law_many"] []
  g_Board_is_name : FunD K "is_name" "Board.is_name" (defArgs s_g_Board_is_name) (defBody s_g_Board_is_name) (defScope s_g_Board_is_name) [] [] (statAt K "Board" "is_name") a.g_Board_is_nameD
  g_Board_is_name_b : Binds K a.g_Board_is_nameD ["text"] []
  g_are_names : FunD K "are_names" "are_names" (defArgs s_g_are_names) (defBody s_g_are_names) (defScope s_g_are_names) [] [] (He.ga K "are_names") a.g_are_namesD
  g_are_names_b : Binds K a.g_are_namesD ["names", "least", "most"] []
  g_is_between : FunD K "is_between" "is_between" (defArgs s_g_is_between) (defBody s_g_is_between) (defScope s_g_is_between) [] [] (He.ga K "is_between") a.g_is_betweenD
  g_is_between_b : Binds K a.g_is_betweenD ["one", "other", "nodes"] []
  g_are_loads : FunD K "are_loads" "are_loads" (defArgs s_g_are_loads) (defBody s_g_are_loads) (defScope s_g_are_loads) [] [] (He.ga K "are_loads") a.g_are_loadsD
  g_are_loads_b : Binds K a.g_are_loadsD ["loads", "nodes"] []
  g_is_contact : FunD K "is_contact" "is_contact" (defArgs s_g_is_contact) (defBody s_g_is_contact) (defScope s_g_is_contact) [] [] (He.ga K "is_contact") a.g_is_contactD
  g_is_contact_b : Binds K a.g_is_contactD ["contact", "nodes", "movers"] []
  g_Board_init : FunD K "__init__" "Board.__init__" (defArgs s_g_Board_init) (defBody s_g_Board_init) (defScope s_g_Board_init) [] [("switches", .ref (kwAt K (methAt K "Board" "__init__") "switches")), ("relays", .ref (kwAt K (methAt K "Board" "__init__") "relays")), ("contacts", .ref (kwAt K (methAt K "Board" "__init__") "contacts"))] (methAt K "Board" "__init__") a.g_Board_initD
  g_Board_movers : FunD K "movers" "Board.movers" (defArgs s_g_Board_movers) (defBody s_g_Board_movers) (defScope s_g_Board_movers) [] [] (propAt K "Board" "movers") a.g_Board_moversD
  g_Board_movers_b : Binds K a.g_Board_moversD ["self"] []
  l_relay : FunD K "_law_relay" "_law_relay" (defArgs s_l_relay) (defBody s_l_relay) (defScope s_l_relay) [] [] (He.ga K "_law_relay") a.l_relayD
  l_relay_b : Binds K a.l_relayD ["_law_text", "_law_other"] []
  l_taken : FunD K "_law_taken" "_law_taken" (defArgs s_l_taken) (defBody s_l_taken) (defScope s_l_taken) [] [] (He.ga K "_law_taken") a.l_takenD
  l_taken_b : Binds K a.l_takenD ["_law_nodes", "_law_switches", "_law_lamp"] []
  l_law : FunD K "law" "law" (defArgs s_l_law) (defBody s_l_law) (defScope s_l_law) [] [] (He.ga K "law") a.l_lawD
  l_law_b : Binds K a.l_lawD ["_law_script"] []
  b_abs : mg "abs" = none
  b_all : mg "all" = none
  b_bool : mg "bool" = none
  b_enumerate : mg "enumerate" = none
  b_int : mg "int" = none
  b_isinstance : mg "isinstance" = none
  b_len : mg "len" = none
  b_list : mg "list" = none
  b_max : mg "max" = none
  b_range : mg "range" = none
  b_tuple : mg "tuple" = none
  glo__law_row : mg "_law_row" = some (.ref (He.ga K "_law_row"))
  glo__law_numbers : mg "_law_numbers" = some (.ref (He.ga K "_law_numbers"))
  i_MOST_NAME_CHARS : ∃ t, mg "MOST_NAME_CHARS" = some (.int (12) t)
  s_NAME_CHARS : ∃ t, mg "NAME_CHARS" = some (.str ("abcdefghijklmnopqrstuvwxyz0123456789" : Str) t)
  glo_Board : mg "Board" = some (.ref (He.ga K "Board"))
  rd_Board : ClX.CRead K (He.ga K "Board") (.type "type")
  st_Board_is_name : SMet K (He.ga K "Board") (.type "type") "is_name" (methAt K "Board" "is_name") (statAt K "Board" "is_name")
  glo_InvalidBoard : mg "InvalidBoard" = some (.ref (He.ga K "InvalidBoard"))
  xm_InvalidBoard_InvalidBoard : PySem.W.exmOne K (.ref (He.ga K "InvalidBoard")) (.ref (He.ga K "InvalidBoard")) = some true
  c_Board : Cls K (He.ga K "Board")
  cv_Board_MOST_NODES : ∃ u, ClX.CVal K (He.ga K "Board") (.type "type") "MOST_NODES" (.int 16) u
  glo_are_names : mg "are_names" = some (.ref (He.ga K "are_names"))
  cv_Board_MOST_SWITCHES : ∃ u, ClX.CVal K (He.ga K "Board") (.type "type") "MOST_SWITCHES" (.int 6) u
  ex_InvalidBoard : PySem.W.excIn K (He.ga K "InvalidBoard") He.veBase "ValueError.__new__" = true ∧ PySem.W.keepIn K (.ref (He.ga K "InvalidBoard")) = true ∧ PySem.W.subIn K (.ref (He.ga K "InvalidBoard")) (.type "BaseException") = some true ∧ PySem.W.typeIn K (.ref (He.ga K "InvalidBoard")) = some (.type "type")
  cv_Board_MOST_RELAYS : ∃ u, ClX.CVal K (He.ga K "Board") (.type "type") "MOST_RELAYS" (.int 8) u
  cv_Board_MOST_LAMPS : ∃ u, ClX.CVal K (He.ga K "Board") (.type "type") "MOST_LAMPS" (.int 8) u
  glo_is_between : mg "is_between" = some (.ref (He.ga K "is_between"))
  glo_are_loads : mg "are_loads" = some (.ref (He.ga K "are_loads"))
  cv_Board_MOST_CONTACTS : ∃ u, ClX.CVal K (He.ga K "Board") (.type "type") "MOST_CONTACTS" (.int 40) u
  t_WHENS : ∀ H, SqT K H (He.ga K "WHENS") [.str ("make" : Str), .str ("break" : Str)]
  glo_WHENS : mg "WHENS" = some (.ref (He.ga K "WHENS"))
  t_WAYS : ∀ H, SqT K H (He.ga K "WAYS") [.str ("both" : Str), .str ("forward" : Str)]
  glo_WAYS : mg "WAYS" = some (.ref (He.ga K "WAYS"))
  glo_is_contact : mg "is_contact" = some (.ref (He.ga K "is_contact"))
  na_Board_contacts : NoAttr K (He.ga K "Board") "contacts"
  na_Board_lamps : NoAttr K (He.ga K "Board") "lamps"
  na_Board_relays : NoAttr K (He.ga K "Board") "relays"
  na_Board_switches : NoAttr K (He.ga K "Board") "switches"
  na_Board_nodes : NoAttr K (He.ga K "Board") "nodes"
  mk_Board : Mk K (He.ga K "Board") (methAt K "Board" "__init__")
  kd_Board_switches : ∀ H, SqT K H (kwAt K (methAt K "Board" "__init__") "switches") []
  kd_Board_contacts : ∀ H, SqT K H (kwAt K (methAt K "Board" "__init__") "contacts") []
  pr_Board_movers : PropOf K (He.ga K "Board") "movers" (methAt K "Board" "movers") (propAt K "Board" "movers")
  glo__law_relay : mg "_law_relay" = some (.ref (He.ga K "_law_relay"))
  kd_Board_relays : ∀ H, SqT K H (kwAt K (methAt K "Board" "__init__") "relays") []
  glo__law_taken : mg "_law_taken" = some (.ref (He.ga K "_law_taken"))
  glo_law : mg "law" = some (.ref (He.ga K "law"))
variable {P : Program} {w : World} {K : PySem.W.Frag} {mg : Str → Option Value} {base : Heap} {a : Fs}
theorem kb_Board_1 (T : Tx K mg a) : ∃ mv : List Value, KBn K a.g_Board_initD ["self", "nodes", "lamps", "switches", "relays", "contacts"] 1 ["nodes", "relays", "lamps"] (fun us ws => pick [(0, 0), (2, 0), (2, 2), (1, 0), (2, 1), (1, 1)] us mv ws) (fun vs zs => pick [(0, 0), (2, 0), (2, 2), (1, 0), (2, 1), (1, 1)] vs (([("switches", .ref (kwAt K (methAt K "Board" "__init__") "switches")), ("contacts", .ref (kwAt K (methAt K "Board" "__init__") "contacts"))] : List (Str × V)).map (·.2)) zs) :=
  FunD.kbinds0 T.g_Board_init 1 ["nodes", "relays", "lamps"] [("switches", .ref (kwAt K (methAt K "Board" "__init__") "switches")), ("contacts", .ref (kwAt K (methAt K "Board" "__init__") "contacts"))] (pick [(0, 0), (2, 0), (2, 2), (1, 0), (2, 1), (1, 1)]) (by simp) (by simp) (fun h1 h2 h3 => pick_rel h1 h2 h3) (fun D doc pm an cdv ct us mv ws l1 l2 l3 => match us, mv, ws, l1, l2, l3 with
    | [_], [_, _], [_, _, _], _, _, _ => ⟨_, _, _, _, _, _, rfl, rfl, ⟨_, _, _, _, _, _, rfl, rfl, rfl⟩⟩)
theorem kb_Board_2 (T : Tx K mg a) : ∃ mv : List Value, KBn K a.g_Board_initD ["self", "nodes", "lamps", "switches", "relays", "contacts"] 1 ["nodes", "switches", "lamps"] (fun us ws => pick [(0, 0), (2, 0), (2, 2), (2, 1), (1, 0), (1, 1)] us mv ws) (fun vs zs => pick [(0, 0), (2, 0), (2, 2), (2, 1), (1, 0), (1, 1)] vs (([("relays", .ref (kwAt K (methAt K "Board" "__init__") "relays")), ("contacts", .ref (kwAt K (methAt K "Board" "__init__") "contacts"))] : List (Str × V)).map (·.2)) zs) :=
  FunD.kbinds0 T.g_Board_init 1 ["nodes", "switches", "lamps"] [("relays", .ref (kwAt K (methAt K "Board" "__init__") "relays")), ("contacts", .ref (kwAt K (methAt K "Board" "__init__") "contacts"))] (pick [(0, 0), (2, 0), (2, 2), (2, 1), (1, 0), (1, 1)]) (by simp) (by simp) (fun h1 h2 h3 => pick_rel h1 h2 h3) (fun D doc pm an cdv ct us mv ws l1 l2 l3 => match us, mv, ws, l1, l2, l3 with
    | [_], [_, _], [_, _, _], _, _, _ => ⟨_, _, _, _, _, _, rfl, rfl, ⟨_, _, _, _, _, _, rfl, rfl, rfl⟩⟩)
set_option maxHeartbeats 400000 in
theorem ok_l_row (T : Tx K mg a) : FnOk P w K mg base (L2.CX P w) 1 (He.ga K "_law_row") a.l_rowD ["_law_cell", "_law_many"] (spF K mg (.pr .int (.pr .int .nl)) (.o (.l (.d .int))) fun x => l_row x.1 x.2.1) := by
  refine fn_bodyD T.l_row sc_l_row rfl fun cdv A outer s H E hr tk po x => ?_
  have hN := sc_l_row.nd
  have hu := hr.units
  exact bs_cast (b_set (r := .o (.l (.d .int))) 2 (e_lst (n := 0) (hl := by decide) (el_nil (t := .int))) (.all rfl) (fun row_here_7 => b_set (r := .d .int) 3 (e_abs (hs := rfl) rfl T.b_abs (e_var 0 rfl (vL 0 rfl rfl rfl))) (.all rfl) (fun rest_8 => bs_seq (G := fun (s : ((List Int) × Int)) => [.d .int x.1, .d .int x.2.1, .o (.l (.d .int)) s.1, .d .int s.2, .no, .no]) (s1_for (hix := fun _ => all_ix rfl) (hs := fun _ => rfl) (t := .int) (G := fun (s : ((List Int) × Int)) => [.d .int x.1, .d .int x.2.1, .o (.l (.d .int)) s.1, .d .int s.2, .no, .no]) (s0 := (row_here_7, rest_8)) (f := (l_row_b1 x.1)) po rfl (is_ran (r_ran1 (hs := rfl) rfl T.b_range (e_var 1 rfl (vL 1 rfl rfl rfl)))) (g_nm 4 (pg_name hN rfl (.inl rfl) (.inr rfl))) (fun s9 k10 => bs_cast (bs_one (s1_if (t_c2 (hm := mark_of _ rfl) (c_ge (e_abs (hs := rfl) rfl T.b_abs (e_var 0 rfl (vL 0 rfl rfl rfl))) (e_pow e_int e_int))) (bs_app 2 (t := .int) (hbase := rfl) (hfew := rfl) (hline := rfl) (hs := rfl) (hpl := rfl) rfl (vL 2 rfl rfl rfl) (e_mod (e_var 3 rfl (vL 3 rfl rfl rfl)) e_int) (.all rfl) (fun row_here_12 => b_set (r := .d .int) 3 (e_div (e_var 3 rfl (vL 3 rfl rfl rfl)) e_int) (.all rfl) (fun rest_13 => bs_nil (b := (row_here_12, rest_13)) rfl (.same (.same (.same (.same (.no (.same .nil))))))) hN rfl (.inl rfl) (.inr rfl) rfl rfl rfl)) (b_set (r := .d .int) 5 (e_mod (e_add (e_mul (e_var 3 rfl (vL 3 rfl rfl rfl)) e_int) (e_mul (e_add (e_var 4 rfl (vL 4 rfl rfl rfl)) e_int) e_int)) e_int) (.all rfl) (fun mixed_18 => b_set (r := .d .int) 5 (e_mod (e_add (e_mul (e_var 5 rfl (vL 5 rfl rfl rfl)) e_int) (e_mul e_int (e_add (e_var 4 rfl (vL 4 rfl rfl rfl)) e_int))) e_int) (.all rfl) (fun mixed_22 => bs_app 2 (t := .int) (hbase := rfl) (hfew := rfl) (hline := rfl) (hs := rfl) (hpl := rfl) rfl (vL 2 rfl rfl rfl) (e_mod (e_var 5 rfl (vL 5 rfl rfl rfl)) e_int) (.all rfl) (fun row_here_23 => bs_nil (b := (row_here_23, s9.2)) rfl (.same (.same (.same (.same (.no (.no .nil)))))))) hN rfl (.inl rfl) (.inr rfl) rfl rfl rfl) hN rfl (.inl rfl) (.inr rfl) rfl rfl rfl))) (by simp only [okb, exb, l_row_b1])) (.same (.same (.same (.same (.same (.same .nil))))))) (fun s26 => bs_retO 2 (b := s26.1) (hI := rfl) rfl (vL 2 rfl rfl rfl))) hN rfl (.inl rfl) (.inr rfl) rfl rfl rfl) hN rfl (.inl rfl) (.inr rfl) rfl rfl rfl) (by simp only [okb, exb, l_row])
set_option maxHeartbeats 400000 in
theorem ok_l_numbers (T : Tx K mg a) : FnOk P w K mg base (L2.CX P w) 2 (He.ga K "_law_numbers") a.l_numbersD ["_law_script", "_law_many"] (spF K mg (.pr .scr (.pr .int .nl)) (.o (.l (.d .int))) fun x => l_numbers x.1 x.2.1) := by
  refine fn_bodyD T.l_numbers sc_l_numbers rfl fun cdv A outer s H E hr tk po x => ?_
  have hN := sc_l_numbers.nd
  have hu := hr.units
  exact bs_cast (b_setF (o := .l (.d .int)) 2 (e_slScr (e_var 0 rfl (vL 0 rfl rfl rfl)) p_none (p_some e_int)) (.all rfl) (fun cells_1 => b_set (r := .d .int) 3 (e_add e_int (e_div (e_var 1 rfl (vL 1 rfl rfl rfl)) (e_max2 (hs := rfl) (hs2 := rfl) (hp := rfl) rfl rfl T.b_max e_int (e_lenL (hs := rfl) rfl T.b_len (e_var 2 rfl (vL 2 rfl rfl rfl)))))) (.all rfl) (fun each_3 => b_set (r := .o (.l (.d .int))) 4 (e_lst (n := 0) (hl := by decide) (el_nil (t := .int))) (.all rfl) (fun numbers_here_4 => bs_seq (G := fun (s : (List Int)) => [.d .scr x.1, .d .int x.2.1, .d (.list .int) cells_1, .d .int each_3, .o (.l (.d .int)) s, .no, .no]) (s1_for (hix := fun _ => all_ix rfl) (hs := fun _ => rfl) (t := .int) (G := fun (s : (List Int)) => [.d .scr x.1, .d .int x.2.1, .d (.list .int) cells_1, .d .int each_3, .o (.l (.d .int)) s, .no, .no]) (s0 := numbers_here_4) (f := (l_numbers_b1 each_3)) po rfl (is_hid (i_list (e_var 2 rfl (vL 2 rfl rfl rfl)))) (g_nm 5 (pg_name hN rfl (.inl rfl) (.inr rfl))) (fun s5 cell6 => bs_cast (bs_seq (G := fun (s : (List Int)) => [.d .scr x.1, .d .int x.2.1, .d (.list .int) cells_1, .d .int each_3, .o (.l (.d .int)) s, .d .int cell6, .no]) (s1_for (hix := fun _ => all_ix rfl) (hs := fun _ => rfl) (t := .int) (G := fun (s : (List Int)) => [.d .scr x.1, .d .int x.2.1, .d (.list .int) cells_1, .d .int each_3, .o (.l (.d .int)) s, .d .int cell6, .no]) (s0 := s5) (f := l_numbers_b2) po rfl (is_hid (i_list (e_frz (o := .l (.d .int)) (e_call (hdb := rfl) (he := rfl) (hpl := rfl) (ok_l_row T) (hr.mono (by decide)) rfl T.glo__law_row T.l_row.kp T.l_row_b tk (ea_cons (hs := rfl) (e_var 5 rfl (vL 5 rfl rfl rfl)) (ea_cons (hs := rfl) (e_var 3 rfl (vL 3 rfl rfl rfl)) ea_nil)))))) (g_nm 6 (pg_name hN rfl (.inl rfl) (.inr rfl))) (fun s28 number29 => bs_cast (bs_app 4 (t := .int) (hbase := rfl) (hfew := rfl) (hline := rfl) (hs := rfl) (hpl := rfl) rfl (vL 4 rfl rfl rfl) (e_var 6 rfl (vL 6 rfl rfl rfl)) (.all rfl) (fun numbers_here_30 => bs_nil (b := numbers_here_30) rfl (.same (.same (.same (.same (.same (.same (.no .nil))))))))) (by simp only [okb, exb, l_numbers_b2])) (.same (.same (.same (.same (.same (.same (.same .nil)))))))) (fun s31 => bs_nil (b := s31) rfl (.same (.same (.same (.same (.same (.no (.same .nil))))))))) (by simp only [okb, exb, l_numbers_b1])) (.same (.same (.same (.same (.same (.same (.same .nil)))))))) (fun s33 => bs_seq (G := fun (s : (List Int)) => [.d .scr x.1, .d .int x.2.1, .d (.list .int) cells_1, .d .int each_3, .o (.l (.d .int)) s, .no, .no]) (s1_while (G := fun (s : (List Int)) => [.d .scr x.1, .d .int x.2.1, .d (.list .int) cells_1, .d .int each_3, .o (.l (.d .int)) s, .no, .no]) (s0 := s33) (mc := (l_numbers_b3c x.2.1)) (f := l_numbers_b3) fuel po (fun s34 => t_cast (t_c2 (hm := mark_of _ rfl) (c_lt (e_lenL (hs := rfl) rfl T.b_len (e_own 4 (o := .l (.d .int)) rfl (vL 4 rfl rfl rfl))) (e_var 1 rfl (vL 1 rfl rfl rfl)))) (by simp only [okb, exb, l_numbers_b3c])) (fun s34 => bs_cast (bs_app 4 (t := .int) (hbase := rfl) (hfew := rfl) (hline := rfl) (hs := rfl) (hpl := rfl) rfl (vL 4 rfl rfl rfl) e_int (.all rfl) (fun numbers_here_35 => bs_nil (b := numbers_here_35) rfl (.same (.same (.same (.same (.same (.same (.same .nil))))))))) (by simp only [okb, exb, l_numbers_b3])) (.same (.same (.same (.same (.same (.same (.same .nil)))))))) (fun s36 => b_ret (e_slL (e_own 4 (o := .l (.d .int)) rfl (vL 4 rfl rfl rfl)) p_none (p_some (e_var 1 rfl (vL 1 rfl rfl rfl)))) (.all rfl)))) hN rfl (.inl rfl) (.inr rfl) rfl rfl rfl) hN rfl (.inl rfl) (.inr rfl) rfl rfl rfl) hN rfl (.inl rfl) (.inr rfl) rfl rfl rfl) (by simp only [okb, exb, l_numbers])
set_option maxHeartbeats 400000 in
theorem ok_g_Board_is_name (T : Tx K mg a) : FnOk P w K mg base (L2.CX P w) 1 (statAt K "Board" "is_name") a.g_Board_is_nameD ["text"] (spF K mg (.pr .str .nl) (.d .bool) fun x => g_Board_is_name x.1) := by
  refine fn_bodyD T.g_Board_is_name sc_g_Board_is_name rfl fun cdv A outer s H E hr tk po x => ?_
  have hN := sc_g_Board_is_name.nd
  have hu := hr.units
  exact bs_cast (bs_ifR (hI := fun _ => rfl) (t_not (t_chain (p1 := fun i j => decide (i ≤ j)) (p2 := fun i j => decide (i ≤ j)) op_le op_le (by with_unfolding_all rfl) e_int (e_lenS (hs := rfl) rfl T.b_len (e_var 0 rfl (vL 0 rfl rfl rfl))) (e_gref (v := .int (12)) rfl (Classical.choose_spec T.i_MOST_NAME_CHARS) ⟨_, rfl⟩ rfl (fun _ => rfl)))) (b_ret e_bool (.all rfl)) (b_ret (e_all (hs := rfl) rfl rfl T.b_all (e_frz (o := .l (.d .bool)) (e_lc (hs := fun _ => rfl) (his := by decide) rfl hN (own := [("char", 1)]) (blk_by N_g_Board_is_name (defScope s_g_Board_is_name) (by decide +kernel)) (i_str (e_var 0 rfl (vL 0 rfl rfl rfl))) (fun _ _ _ _ _ => (g_nm 1 (pg_name hN rfl (.inl rfl) (.inr rfl)))) (fun char77 _ _ _ _ _ => ts_nil) (fun char77 _ _ _ _ _ => (e_c2 (hm := by with_unfolding_all rfl) (c_inS (e_var 1 rfl (vL 1 rfl rfl rfl)) (e_gref (v := .str ("abcdefghijklmnopqrstuvwxyz0123456789" : Str)) rfl (Classical.choose_spec T.s_NAME_CHARS) ⟨_, rfl⟩ rfl (fun _ => rfl)))))))) (.all rfl))) (by simp only [okb, exb, g_Board_is_name])
set_option maxHeartbeats 400000 in
theorem ok_g_are_names (T : Tx K mg a) : FnOk P w K mg base (L2.CX P w) 2 (He.ga K "are_names") a.g_are_namesD ["names", "least", "most"] (spF K mg (.pr (.list .str) (.pr .int (.pr .int .nl))) (.d .bool) fun x => g_are_names x.1 x.2.1 x.2.2.1) := by
  refine fn_bodyD T.g_are_names sc_g_are_names rfl fun cdv A outer s H E hr tk po x => ?_
  have hN := sc_g_are_names.nd
  have hu := hr.units
  exact bs_cast (bs_ifR (hI := fun _ => rfl) (t_not (t_chain (p1 := fun i j => decide (i ≤ j)) (p2 := fun i j => decide (i ≤ j)) op_le op_le (by with_unfolding_all rfl) (e_var 1 rfl (vL 1 rfl rfl rfl)) (e_lenL (hs := rfl) rfl T.b_len (e_var 0 rfl (vL 0 rfl rfl rfl))) (e_var 2 rfl (vL 2 rfl rfl rfl)))) (b_ret e_bool (.all rfl)) (bs_seqF (G := fun (s : Unit) => [.d (.list .str) x.1, .d .int x.2.1, .d .int x.2.2.1, .no, .no]) (O := fun (y : Bool) => .rt (.d .bool) y) (j := fun y95 => y95) (hj := fun _ => rfl) (ho := fun _ => rfl) (s1_forF (hO := fun _ => rfl) (hix := fun _ => all_ix rfl) (hs := fun _ => rfl) (t := (.tup (.pr .int .str))) (G := fun (s : Unit) => [.d (.list .str) x.1, .d .int x.2.1, .d .int x.2.2.1, .no, .no]) (s0 := ()) (O := fun (y : Bool) => .rt (.d .bool) y) (f := (g_are_names_b1 x.1)) po rfl (is_hid (i_enumL rfl T.b_enumerate (e_var 0 rfl (vL 0 rfl rfl rfl)) rfl rfl)) (g_tup (har := rfl) (hn := rfl) (hst := rfl) rfl (gs_cons (hs := rfl) (g_nm 3 (pg_name hN rfl (.inl rfl) (.inr rfl))) (gs_one (ht := rfl) (hs := rfl) (g_nm 4 (pg_name hN rfl (.inl rfl) (.inr rfl)))))) (fun s88 p89 => bs_cast (bs_one (s1_if (t_w (w_or (t_not (t_of (he := fun _ => rfl) (e_smet rfl T.glo_Board T.rd_Board T.st_Board_is_name (ok_g_Board_is_name T) (hr.mono (by decide)) T.g_Board_is_name_b tk rfl (ea_cons (hs := rfl) (e_var 4 rfl (vL 4 rfl rfl rfl)) ea_nil) rfl rfl rfl))) (w_or1 (t_c2 (hm := by with_unfolding_all rfl) (c_inL .str (e_var 4 rfl (vL 4 rfl rfl rfl)) (e_frz (o := .l (.d .str)) (e_slL (e_var 0 rfl (vL 0 rfl rfl rfl)) p_none (p_some (e_var 3 rfl (vL 3 rfl rfl rfl)))))))))) (bs_ret (b := fun y92 => (Lp.out y92)) e_bool (.all rfl) (hI := fun _ => rfl)) (bs_nil (b := (Lp.go ())) rfl (.same (.same (.same (.no (.no .nil)))))))) (by simp only [okb, exb, g_are_names_b1])) (.same (.same (.same (.same (.same .nil)))))) (fun s94 => b_ret e_bool (.all rfl)))) (by simp only [okb, exb, g_are_names])
set_option maxHeartbeats 400000 in
theorem ok_g_is_between (T : Tx K mg a) : FnOk P w K mg base (L2.CX P w) 1 (He.ga K "is_between") a.g_is_betweenD ["one", "other", "nodes"] (spF K mg (.pr .str (.pr .str (.pr (.list .str) .nl))) (.d .bool) fun x => g_is_between x.1 x.2.1 x.2.2.1) := by
  refine fn_bodyD T.g_is_between sc_g_is_between rfl fun cdv A outer s H E hr tk po x => ?_
  have hN := sc_g_is_between.nd
  have hu := hr.units
  exact bs_cast (b_ret (e_and (e_c2 (hm := by with_unfolding_all rfl) (c_inL .str (e_var 0 rfl (vL 0 rfl rfl rfl)) (e_var 2 rfl (vL 2 rfl rfl rfl)))) (e_and (e_c2 (hm := by with_unfolding_all rfl) (c_inL .str (e_var 1 rfl (vL 1 rfl rfl rfl)) (e_var 2 rfl (vL 2 rfl rfl rfl)))) (e_b1 (e_c2 (hm := mark_of _ rfl) (c_ne (t := .str) (ht := rfl) (hd := by decide) hu (e_var 0 rfl (vL 0 rfl rfl rfl)) (e_var 1 rfl (vL 1 rfl rfl rfl))))))) (.all rfl)) (by simp only [okb, exb, g_is_between])
set_option maxHeartbeats 400000 in
theorem ok_g_are_loads (T : Tx K mg a) : FnOk P w K mg base (L2.CX P w) 2 (He.ga K "are_loads") a.g_are_loadsD ["loads", "nodes"] (spF K mg (.pr (.list (.tup (.pr .str (.pr .str .str)))) (.pr (.list .str) .nl)) (.d .bool) fun x => g_are_loads x.1 x.2.1) := by
  refine fn_bodyD T.g_are_loads sc_g_are_loads rfl fun cdv A outer s H E hr tk po x => ?_
  have hN := sc_g_are_loads.nd
  have hu := hr.units
  exact bs_cast (bs_seqF (G := fun (s : Unit) => [.d (.list (.tup (.pr .str (.pr .str .str)))) x.1, .d (.list .str) x.2.1, .no, .no, .no]) (O := fun (y : Bool) => .rt (.d .bool) y) (j := fun y114 => y114) (hj := fun _ => rfl) (ho := fun _ => rfl) (s1_forF (hO := fun _ => rfl) (hix := fun _ => all_ix rfl) (hs := fun _ => rfl) (t := (.tup (.pr .str (.pr .str .str)))) (G := fun (s : Unit) => [.d (.list (.tup (.pr .str (.pr .str .str)))) x.1, .d (.list .str) x.2.1, .no, .no, .no]) (s0 := ()) (O := fun (y : Bool) => .rt (.d .bool) y) (f := (g_are_loads_b1 x.2.1)) po rfl (is_hid (i_list (e_var 0 rfl (vL 0 rfl rfl rfl)))) (g_tup (har := rfl) (hn := rfl) (hst := rfl) rfl (gs_cons (hs := rfl) (g_nm 2 (pg_name hN rfl (.inl rfl) (.inr rfl))) (gs_cons (hs := rfl) (g_nm 3 (pg_name hN rfl (.inl rfl) (.inr rfl))) (gs_one (ht := rfl) (hs := rfl) (g_nm 4 (pg_name hN rfl (.inl rfl) (.inr rfl))))))) (fun s108 p109 => bs_cast (bs_one (s1_if (t_not (t_of (he := fun _ => rfl) (e_call (hdb := rfl) (he := rfl) (hpl := rfl) (ok_g_is_between T) (hr.mono (by decide)) rfl T.glo_is_between T.g_is_between.kp T.g_is_between_b tk (ea_cons (hs := rfl) (e_var 3 rfl (vL 3 rfl rfl rfl)) (ea_cons (hs := rfl) (e_var 4 rfl (vL 4 rfl rfl rfl)) (ea_cons (hs := rfl) (e_var 1 rfl (vL 1 rfl rfl rfl)) ea_nil)))))) (bs_ret (b := fun y111 => (Lp.out y111)) e_bool (.all rfl) (hI := fun _ => rfl)) (bs_nil (b := (Lp.go ())) rfl (.same (.same (.no (.no (.no .nil)))))))) (by simp only [okb, exb, g_are_loads_b1])) (.same (.same (.same (.same (.same .nil)))))) (fun s113 => b_ret e_bool (.all rfl))) (by simp only [okb, exb, g_are_loads])
set_option maxHeartbeats 400000 in
theorem ok_g_is_contact (T : Tx K mg a) : FnOk P w K mg base (L2.CX P w) 2 (He.ga K "is_contact") a.g_is_contactD ["contact", "nodes", "movers"] (spF K mg (.pr (.tup (.pr .str (.pr .str (.pr (.opt .str) (.pr .str .str))))) (.pr (.list .str) (.pr (.list .str) .nl))) (.d .bool) fun x => g_is_contact x.1 x.2.1 x.2.2.1) := by
  refine fn_bodyD T.g_is_contact sc_g_is_contact rfl fun cdv A outer s H E hr tk po x => ?_
  have hN := sc_g_is_contact.nd
  have hu := hr.units
  exact bs_cast (bs_asg (t := (.tup (.pr .str (.pr .str (.pr (.opt .str) (.pr .str .str)))))) (hi := all_ix rfl) (hs := rfl) (hw := rfl) (h1 := rfl) (e_var 0 rfl (vL 0 rfl rfl rfl)) (.all rfl) (g_tup (har := rfl) (hn := rfl) (hst := rfl) rfl (gs_cons (hs := rfl) (g_nm 3 (pg_name hN rfl (.inl rfl) (.inr rfl))) (gs_cons (hs := rfl) (g_nm 4 (pg_name hN rfl (.inl rfl) (.inr rfl))) (gs_cons (hs := rfl) (g_nm 5 (pg_name hN rfl (.inl rfl) (.inr rfl))) (gs_cons (hs := rfl) (g_nm 6 (pg_name hN rfl (.inl rfl) (.inr rfl))) (gs_one (ht := rfl) (hs := rfl) (g_nm 7 (pg_name hN rfl (.inl rfl) (.inr rfl))))))))) (fun p120 => bs_ifR (hI := fun _ => rfl) (t_w (w_or (t_not (t_of (he := fun _ => rfl) (e_call (hdb := rfl) (he := rfl) (hpl := rfl) (ok_g_is_between T) (hr.mono (by decide)) rfl T.glo_is_between T.g_is_between.kp T.g_is_between_b tk (ea_cons (hs := rfl) (e_var 3 rfl (vL 3 rfl rfl rfl)) (ea_cons (hs := rfl) (e_var 4 rfl (vL 4 rfl rfl rfl)) (ea_cons (hs := rfl) (e_var 1 rfl (vL 1 rfl rfl rfl)) ea_nil)))))) (w_or (t_c2 (hm := by with_unfolding_all rfl) (c_ninT .str (e_var 6 rfl (vL 6 rfl rfl rfl)) (e_gref (t := .vtup .str) (z := ([("make" : Str), ("break" : Str)] : List Str)) (v := .ref (He.ga _ "WHENS")) rfl T.glo_WHENS rfl rfl (fun H => ⟨_, _, rfl, T.t_WHENS H, ⟨rfl, ⟨rfl, True.intro⟩⟩⟩)))) (w_or1 (t_c2 (hm := by with_unfolding_all rfl) (c_ninT .str (e_var 7 rfl (vL 7 rfl rfl rfl)) (e_gref (t := .vtup .str) (z := ([("both" : Str), ("forward" : Str)] : List Str)) (v := .ref (He.ga _ "WAYS")) rfl T.glo_WAYS rfl rfl (fun H => ⟨_, _, rfl, T.t_WAYS H, ⟨rfl, ⟨rfl, True.intro⟩⟩⟩)))))))) (b_ret e_bool (.all rfl)) (bs_ifR (hI := fun _ => rfl) (t_c2 (hm := mark_of _ rfl) (c_isN (e_var 5 rfl (vL 5 rfl rfl rfl)))) (b_ret (e_c2 (hm := mark_of _ rfl) (c_eq (t := .str) (ht := rfl) (hd := by decide) hu (e_var 6 rfl (vL 6 rfl rfl rfl)) e_str)) (.all rfl)) (b_ret (e_c2 (hm := by with_unfolding_all rfl) (c_inL .str (e_get (e_var 5 rfl (vL 5 rfl rfl rfl))) (e_var 2 rfl (vL 2 rfl rfl rfl)))) (.all rfl))))) (by simp only [okb, exb, g_is_contact])
set_option maxHeartbeats 400000 in
theorem ok_g_Board_init (T : Tx K mg a) : FnOk P w K mg base (L2.CX P w) 3 (methAt K "Board" "__init__") a.g_Board_initD ["self", "nodes", "lamps", "switches", "relays", "contacts"] (spI K mg "Board" (.pr (.list .str) (.pr (.list (.tup (.pr .str (.pr .str .str)))) (.pr (.vtup .str) (.pr (.list (.tup (.pr .str (.pr .str .str)))) (.pr (.vtup (.tup (.pr .str (.pr .str (.pr (.opt .str) (.pr .str .str)))))) .nl))))) ns_Board fo_Board fun x => g_Board_init x.1 x.2.1 x.2.2.1 x.2.2.2.1 x.2.2.2.2.1) := by
  refine fn_bodyI (n := 5) T.g_Board_init sc_g_Board_init rfl rfl (by decide) fun cdv A outer s H E hr tk po x => ?_
  have hN := sc_g_Board_init.nd
  have hu := hr.units
  exact bs_cast (bs_ifL (γ := Empty) (I' := fun z => nomatch z) (fun z => nomatch z) (t_w (w_or (t_not (t_of (he := fun _ => rfl) (e_call (hdb := rfl) (he := rfl) (hpl := rfl) (ok_g_are_names T) (hr.mono (by decide)) rfl T.glo_are_names T.g_are_names.kp T.g_are_names_b tk (ea_cons (hs := rfl) (e_var 1 rfl (vL 1 rfl rfl rfl)) (ea_cons (hs := rfl) e_int (ea_cons (hs := rfl) (e_cval (t := .int) rfl T.glo_Board T.rd_Board (Classical.choose_spec T.cv_Board_MOST_NODES) rfl (fun _ => rfl) rfl) ea_nil)))))) (w_or1 (t_c2 (hm := mark_of _ rfl) (c_gt (e_lenT (hs := rfl) rfl T.b_len (e_var 3 rfl (vL 3 rfl rfl rfl))) (e_cval (t := .int) rfl T.glo_Board T.rd_Board (Classical.choose_spec T.cv_Board_MOST_SWITCHES) rfl (fun _ => rfl) rfl)))))) (b_raise "InvalidBoard" rfl tk T.glo_InvalidBoard (pmk_own PySem.F.excBase_ValueError T.ex_InvalidBoard.1 T.glo_InvalidBoard T.ex_InvalidBoard.2.1 (raises_own T.ex_InvalidBoard.2.2.1 T.ex_InvalidBoard.2.2.2) rfl rfl)) (b_setF (o := .l (.d .str)) 6 (e_catL (e_frz (o := .l (.d .str)) (e_listT (t := .str) (hs := rfl) rfl T.b_list (e_var 3 rfl (vL 3 rfl rfl rfl)))) (e_frz (o := .l (.d .str)) (e_lc (hs := fun _ => rfl) (his := by decide) rfl hN (own := [("relay", 8)]) (blk_by N_g_Board_init (defScope s_g_Board_init) (by decide +kernel)) (i_list (e_var 4 rfl (vL 4 rfl rfl rfl))) (fun _ _ _ _ _ => (g_nm 8 (pg_name hN rfl (.inl rfl) (.inr rfl)))) (fun relay99 _ _ _ _ _ => ts_nil) (fun relay99 _ _ _ _ _ => (e_fld (hi := rfl) (hs := fun _ _ => rfl) (e_var 8 rfl (vL 8 rfl rfl rfl)) .hd))))) (.all rfl) (fun movers_101 => bs_ifL (γ := Empty) (I' := fun z => nomatch z) (fun z => nomatch z) (t_w (w_or (t_not (t_of (he := fun _ => rfl) (e_call (hdb := rfl) (he := rfl) (hpl := rfl) (ok_g_are_names T) (hr.mono (by decide)) rfl T.glo_are_names T.g_are_names.kp T.g_are_names_b tk (ea_cons (hs := rfl) (e_var 6 rfl (vL 6 rfl rfl rfl)) (ea_cons (hs := rfl) e_int (ea_cons (hs := rfl) (e_add (e_cval (t := .int) rfl T.glo_Board T.rd_Board (Classical.choose_spec T.cv_Board_MOST_SWITCHES) rfl (fun _ => rfl) rfl) (e_cval (t := .int) rfl T.glo_Board T.rd_Board (Classical.choose_spec T.cv_Board_MOST_RELAYS) rfl (fun _ => rfl) rfl)) ea_nil)))))) (w_or1 (t_c2 (hm := mark_of _ rfl) (c_gt (e_lenL (hs := rfl) rfl T.b_len (e_var 4 rfl (vL 4 rfl rfl rfl))) (e_cval (t := .int) rfl T.glo_Board T.rd_Board (Classical.choose_spec T.cv_Board_MOST_RELAYS) rfl (fun _ => rfl) rfl)))))) (b_raise "InvalidBoard" rfl tk T.glo_InvalidBoard (pmk_own PySem.F.excBase_ValueError T.ex_InvalidBoard.1 T.glo_InvalidBoard T.ex_InvalidBoard.2.1 (raises_own T.ex_InvalidBoard.2.2.1 T.ex_InvalidBoard.2.2.2) rfl rfl)) (bs_ifL (γ := Empty) (I' := fun z => nomatch z) (fun z => nomatch z) (t_not (t_of (he := fun _ => rfl) (e_call (hdb := rfl) (he := rfl) (hpl := rfl) (ok_g_are_names T) (hr.mono (by decide)) rfl T.glo_are_names T.g_are_names.kp T.g_are_names_b tk (ea_cons (hs := rfl) (e_frz (o := .l (.d .str)) (e_lc (hs := fun _ => rfl) (his := by decide) rfl hN (own := [("lamp", 9)]) (blk_by N_g_Board_init (defScope s_g_Board_init) (by decide +kernel)) (i_list (e_var 2 rfl (vL 2 rfl rfl rfl))) (fun _ _ _ _ _ => (g_nm 9 (pg_name hN rfl (.inl rfl) (.inr rfl)))) (fun lamp104 _ _ _ _ _ => ts_nil) (fun lamp104 _ _ _ _ _ => (e_fld (hi := rfl) (hs := fun _ _ => rfl) (e_var 9 rfl (vL 9 rfl rfl rfl)) .hd)))) (ea_cons (hs := rfl) e_int (ea_cons (hs := rfl) (e_cval (t := .int) rfl T.glo_Board T.rd_Board (Classical.choose_spec T.cv_Board_MOST_LAMPS) rfl (fun _ => rfl) rfl) ea_nil)))))) (b_raise "InvalidBoard" rfl tk T.glo_InvalidBoard (pmk_own PySem.F.excBase_ValueError T.ex_InvalidBoard.1 T.glo_InvalidBoard T.ex_InvalidBoard.2.1 (raises_own T.ex_InvalidBoard.2.2.1 T.ex_InvalidBoard.2.2.2) rfl rfl)) (bs_ifL (γ := Empty) (I' := fun z => nomatch z) (fun z => nomatch z) (t_w (w_or (t_not (t_of (he := fun _ => rfl) (e_call (hdb := rfl) (he := rfl) (hpl := rfl) (ok_g_are_loads T) (hr.mono (by decide)) rfl T.glo_are_loads T.g_are_loads.kp T.g_are_loads_b tk (ea_cons (hs := rfl) (e_var 4 rfl (vL 4 rfl rfl rfl)) (ea_cons (hs := rfl) (e_var 1 rfl (vL 1 rfl rfl rfl)) ea_nil))))) (w_or1 (t_not (t_of (he := fun _ => rfl) (e_call (hdb := rfl) (he := rfl) (hpl := rfl) (ok_g_are_loads T) (hr.mono (by decide)) rfl T.glo_are_loads T.g_are_loads.kp T.g_are_loads_b tk (ea_cons (hs := rfl) (e_var 2 rfl (vL 2 rfl rfl rfl)) (ea_cons (hs := rfl) (e_var 1 rfl (vL 1 rfl rfl rfl)) ea_nil)))))))) (b_raise "InvalidBoard" rfl tk T.glo_InvalidBoard (pmk_own PySem.F.excBase_ValueError T.ex_InvalidBoard.1 T.glo_InvalidBoard T.ex_InvalidBoard.2.1 (raises_own T.ex_InvalidBoard.2.2.1 T.ex_InvalidBoard.2.2.2) rfl rfl)) (bs_ifL (γ := Empty) (I' := fun z => nomatch z) (fun z => nomatch z) (t_c2 (hm := mark_of _ rfl) (c_gt (e_lenT (hs := rfl) rfl T.b_len (e_var 5 rfl (vL 5 rfl rfl rfl))) (e_cval (t := .int) rfl T.glo_Board T.rd_Board (Classical.choose_spec T.cv_Board_MOST_CONTACTS) rfl (fun _ => rfl) rfl))) (b_raise "InvalidBoard" rfl tk T.glo_InvalidBoard (pmk_own PySem.F.excBase_ValueError T.ex_InvalidBoard.1 T.glo_InvalidBoard T.ex_InvalidBoard.2.1 (raises_own T.ex_InvalidBoard.2.2.1 T.ex_InvalidBoard.2.2.2) rfl rfl)) (bs_seq (G := fun (s : Unit) => [.o (.ins "Board" [] .nl) (), .d (.list .str) x.1, .d (.list (.tup (.pr .str (.pr .str .str)))) x.2.1, .d (.vtup .str) x.2.2.1, .d (.list (.tup (.pr .str (.pr .str .str)))) x.2.2.2.1, .d (.vtup (.tup (.pr .str (.pr .str (.pr (.opt .str) (.pr .str .str)))))) x.2.2.2.2.1, .d (.list .str) movers_101, .no, .no, .no]) (s1_for (hix := fun _ => all_ix rfl) (hs := fun _ => rfl) (t := (.tup (.pr .str (.pr .str (.pr (.opt .str) (.pr .str .str)))))) (G := fun (s : Unit) => [.o (.ins "Board" [] .nl) (), .d (.list .str) x.1, .d (.list (.tup (.pr .str (.pr .str .str)))) x.2.1, .d (.vtup .str) x.2.2.1, .d (.list (.tup (.pr .str (.pr .str .str)))) x.2.2.2.1, .d (.vtup (.tup (.pr .str (.pr .str (.pr (.opt .str) (.pr .str .str)))))) x.2.2.2.2.1, .d (.list .str) movers_101, .no, .no, .no]) (s0 := ()) (f := (g_Board_init_b1 x.1 movers_101)) po rfl (is_hid (i_vtup (e_var 5 rfl (vL 5 rfl rfl rfl)))) (g_nm 7 (pg_name hN rfl (.inl rfl) (.inr rfl))) (fun s118 contact119 => bs_cast (bs_one (s1_if (t_not (t_of (he := fun _ => rfl) (e_call (hdb := rfl) (he := rfl) (hpl := rfl) (ok_g_is_contact T) (hr.mono (by decide)) rfl T.glo_is_contact T.g_is_contact.kp T.g_is_contact_b tk (ea_cons (hs := rfl) (e_var 7 rfl (vL 7 rfl rfl rfl)) (ea_cons (hs := rfl) (e_var 1 rfl (vL 1 rfl rfl rfl)) (ea_cons (hs := rfl) (e_var 6 rfl (vL 6 rfl rfl rfl)) ea_nil)))))) (b_raise "InvalidBoard" rfl tk T.glo_InvalidBoard (pmk_own PySem.F.excBase_ValueError T.ex_InvalidBoard.1 T.glo_InvalidBoard T.ex_InvalidBoard.2.1 (raises_own T.ex_InvalidBoard.2.2.1 T.ex_InvalidBoard.2.2.2) rfl rfl)) (bs_nil (b := ()) rfl (.same (.same (.same (.same (.same (.same (.same (.no (.same (.same .nil))))))))))))) (by simp only [okb, exb, g_Board_init_b1])) (.same (.same (.same (.same (.same (.same (.same (.same (.same (.same .nil))))))))))) (fun s127 => b_fld (t := (.vtup .str)) 0 rfl (vL 0 rfl rfl rfl) T.glo_Board T.c_Board T.na_Board_nodes rfl rfl rfl (by exact e_tupL (t := .str) (hs := rfl) rfl T.b_tuple (e_var 1 rfl (vL 1 rfl rfl rfl))) (.all rfl) (fun nodes_128 => b_fld (t := (.vtup .str)) 0 rfl (vL 0 rfl rfl rfl) T.glo_Board T.c_Board T.na_Board_switches rfl rfl rfl (by exact e_tupT (t := .str) (hs := rfl) rfl T.b_tuple (e_var 3 rfl (vL 3 rfl rfl rfl))) (.all rfl) (fun switches_129 => b_fld (t := (.vtup (.tup (.pr .str (.pr .str .str))))) 0 rfl (vL 0 rfl rfl rfl) T.glo_Board T.c_Board T.na_Board_relays rfl rfl rfl (by exact e_tupL (t := (.tup (.pr .str (.pr .str .str)))) (hs := rfl) rfl T.b_tuple (e_frz (o := .l (.d (.tup (.pr .str (.pr .str .str))))) (e_lc (hs := fun _ => rfl) (his := by decide) rfl hN (own := [("relay", 8)]) (blk_by N_g_Board_init (defScope s_g_Board_init) (by decide +kernel)) (i_list (e_var 4 rfl (vL 4 rfl rfl rfl))) (fun _ _ _ _ _ => (g_nm 8 (pg_name hN rfl (.inl rfl) (.inr rfl)))) (fun relay130 _ _ _ _ _ => ts_nil) (fun relay130 _ _ _ _ _ => (e_tupU (hs := rfl) rfl T.b_tuple (e_var 8 rfl (vL 8 rfl rfl rfl))))))) (.all rfl) (fun relays_131 => b_fld (t := (.vtup (.tup (.pr .str (.pr .str .str))))) 0 rfl (vL 0 rfl rfl rfl) T.glo_Board T.c_Board T.na_Board_lamps rfl rfl rfl (by exact e_tupL (t := (.tup (.pr .str (.pr .str .str)))) (hs := rfl) rfl T.b_tuple (e_frz (o := .l (.d (.tup (.pr .str (.pr .str .str))))) (e_lc (hs := fun _ => rfl) (his := by decide) rfl hN (own := [("lamp", 9)]) (blk_by N_g_Board_init (defScope s_g_Board_init) (by decide +kernel)) (i_list (e_var 2 rfl (vL 2 rfl rfl rfl))) (fun _ _ _ _ _ => (g_nm 9 (pg_name hN rfl (.inl rfl) (.inr rfl)))) (fun lamp132 _ _ _ _ _ => ts_nil) (fun lamp132 _ _ _ _ _ => (e_tupU (hs := rfl) rfl T.b_tuple (e_var 9 rfl (vL 9 rfl rfl rfl))))))) (.all rfl) (fun lamps_133 => b_fld (t := (.vtup (.tup (.pr .str (.pr .str (.pr (.opt .str) (.pr .str .str))))))) 0 rfl (vL 0 rfl rfl rfl) T.glo_Board T.c_Board T.na_Board_contacts rfl rfl rfl (by exact e_tupL (t := (.tup (.pr .str (.pr .str (.pr (.opt .str) (.pr .str .str)))))) (hs := rfl) rfl T.b_tuple (e_frz (o := .l (.d (.tup (.pr .str (.pr .str (.pr (.opt .str) (.pr .str .str))))))) (e_lc (hs := fun _ => rfl) (his := by decide) rfl hN (own := [("contact", 7)]) (blk_by N_g_Board_init (defScope s_g_Board_init) (by decide +kernel)) (i_vtup (e_var 5 rfl (vL 5 rfl rfl rfl))) (fun _ _ _ _ _ => (g_nm 7 (pg_name hN rfl (.inl rfl) (.inr rfl)))) (fun contact134 _ _ _ _ _ => ts_nil) (fun contact134 _ _ _ _ _ => (e_tupU (hs := rfl) rfl T.b_tuple (e_var 7 rfl (vL 7 rfl rfl rfl))))))) (.all rfl) (fun contacts_135 => bs_nil (b := (nodes_128, switches_129, relays_131, lamps_133, contacts_135, ())) rfl (.same (.no (.no (.no (.no (.no (.no (.same (.same (.same .nil))))))))))) rfl) rfl) rfl) rfl) rfl)) (fun z => nomatch z) (fun z => nomatch z)) (fun z => nomatch z) (fun z => nomatch z)) (fun z => nomatch z) (fun z => nomatch z)) (fun z => nomatch z) (fun z => nomatch z)) hN rfl (.inl rfl) (.inr rfl) rfl rfl rfl) (fun z => nomatch z) (fun z => nomatch z)) (by simp only [okb, exb, g_Board_init])
set_option maxHeartbeats 400000 in
theorem ok_g_Board_movers (T : Tx K mg a) : FnOk P w K mg base (L2.CX P w) 1 (propAt K "Board" "movers") a.g_Board_moversD ["self"] (spF K mg (.pr (.ins "Board" ns_Board fo_Board.ty) .nl) (.d (.vtup .str)) fun x => g_Board_movers x.1) := by
  refine fn_bodyD T.g_Board_movers sc_g_Board_movers rfl fun cdv A outer s H E hr tk po x => ?_
  have hN := sc_g_Board_movers.nd
  have hu := hr.units
  exact bs_cast (b_ret (e_catT (e_attr (t := (.vtup .str)) (n := 1) T.glo_Board T.c_Board T.na_Board_switches rfl (.tl .hd) (e_var 0 rfl (vL 0 rfl rfl rfl)) rfl) (by exact e_tupL (t := .str) (hs := rfl) rfl T.b_tuple (e_frz (o := .l (.d .str)) (e_lc (hs := fun _ => rfl) (his := by decide) rfl hN (own := [("relay", 1)]) (blk_by N_g_Board_movers (defScope s_g_Board_movers) (by decide +kernel)) (i_vtup (e_attr (t := (.vtup (.tup (.pr .str (.pr .str .str))))) (n := 2) T.glo_Board T.c_Board T.na_Board_relays rfl (.tl (.tl .hd)) (e_var 0 rfl (vL 0 rfl rfl rfl)) rfl)) (fun _ _ _ _ _ => (g_nm 1 (pg_name hN rfl (.inl rfl) (.inr rfl)))) (fun relay154 _ _ _ _ _ => ts_nil) (fun relay154 _ _ _ _ _ => (e_fld (hi := rfl) (hs := fun _ _ => rfl) (e_var 1 rfl (vL 1 rfl rfl rfl)) .hd)))))) (.all rfl)) (by simp only [okb, exb, g_Board_movers])
set_option maxHeartbeats 400000 in
theorem ok_l_relay (T : Tx K mg a) : FnOk P w K mg base (L2.CX P w) 5 (He.ga K "_law_relay") a.l_relayD ["_law_text", "_law_other"] (spF K mg (.pr .str (.pr .str .nl)) (.d .bool) fun x => l_relay x.1 x.2.1) := by
  refine fn_bodyD T.l_relay sc_l_relay rfl fun cdv A outer s H E hr tk po x => ?_
  have hN := sc_l_relay.nd
  have hu := hr.units
  exact bs_cast (b_setF (o := .l (.d .str)) 2 (e_lst (n := 2) (hl := by decide) (el_cons (hs := rfl) (e_var 1 rfl (vL 1 rfl rfl rfl)) (el_cons (hs := rfl) (e_cat e_str (e_var 1 rfl (vL 1 rfl rfl rfl))) (el_nil (t := .str))))) (.all rfl) (fun nodes_86 => bs_seqF (G := fun (s : D_Board) => [.d .str x.1, .d .str x.2.1, .d (.list .str) nodes_86, .d (.ins "Board" ns_Board fo_Board.ty) s, .no]) (O := fun (y : Bool) => .rt (.d .bool) y) (j := fun y157 => y157) (hj := fun _ => rfl) (ho := fun _ => rfl) (s1_try (l := [("InvalidBoard", true)]) [0, 1, 2, 4] rfl rfl ⟨rfl, rfl, .inl T.glo_InvalidBoard⟩ tk rfl (by decide) rfl (sub_cons T.glo_InvalidBoard T.xm_InvalidBoard_InvalidBoard sub_nil) (fun W1 pn xe tk po => b_setF (o := .ins "Board" ns_Board fo_Board) 3 (e_newK (ts := (.pr (.list .str) (.pr (.list (.tup (.pr .str (.pr .str .str)))) (.pr (.vtup .str) (.pr (.list (.tup (.pr .str (.pr .str .str)))) (.pr (.vtup (.tup (.pr .str (.pr .str (.pr (.opt .str) (.pr .str .str)))))) .nl)))))) (us := (.pr (.list .str) (.pr (.list (.tup (.pr .str (.pr .str .str)))) (.pr (.list (.tup (.pr .str (.pr .str .str)))) .nl)))) (π := fun y => (y.1, y.2.2.1, [], y.2.1, [], ())) T.mk_Board (ok_g_Board_init T) (hr.mono (by decide)) rfl T.glo_Board (Classical.choose_spec (kb_Board_1 T)) tk (fun F y zs q h => by
    obtain ⟨w0, r0, rfl, h0, w1, r1, rfl, h1, w2, r2, rfl, h2, rfl⟩ := h
    exact ⟨_, rfl, _, _, rfl, h0, _, _, rfl, h2, _, _, rfl, ⟨_, _, rfl, T.kd_Board_switches F, True.intro⟩, _, _, rfl, h1, _, _, rfl, ⟨_, _, rfl, T.kd_Board_contacts F, True.intro⟩, rfl⟩) rfl (ek_cons (e_var 2 rfl (vL 2 rfl rfl rfl)) (ek_cons (e_frz (o := .l (.d (.tup (.pr .str (.pr .str .str))))) (e_lst (n := 1) (hl := by decide) (el_cons (hs := rfl) (e_tup (hl := rfl) (ea_cons (hs := rfl) (e_var 0 rfl (vL 0 rfl rfl rfl)) (ea_cons (hs := rfl) (e_var 1 rfl (vL 1 rfl rfl rfl)) (ea_one (hs := rfl) (e_cat e_str (e_var 1 rfl (vL 1 rfl rfl rfl))))))) (el_nil (t := (.tup (.pr .str (.pr .str .str)))))))) (ek_cons (e_frz (o := .l (.d (.tup (.pr .str (.pr .str .str))))) (e_lst (n := 1) (hl := by decide) (el_cons (hs := rfl) (e_tup (hl := rfl) (ea_cons (hs := rfl) e_str (ea_cons (hs := rfl) (e_var 1 rfl (vL 1 rfl rfl rfl)) (ea_one (hs := rfl) (e_cat e_str (e_var 1 rfl (vL 1 rfl rfl rfl))))))) (el_nil (t := (.tup (.pr .str (.pr .str .str)))))))) ek_nil))) rfl rfl rfl rfl) (.all rfl) (fun board_151 => bs_nil (b := (Fw.go board_151)) rfl (.same (.same (.same (.same (.same .nil)))))) hN rfl (.inl rfl) (.inr rfl) rfl rfl rfl) (fun a0 oe pn => bs_ret (b := fun y152 => (Fw.out y152)) e_bool (.all rfl) (hI := fun _ => rfl))) (fun s153 => b_ret (e_c2 (hm := mark_of _ rfl) (c_eq (t := (.vtup .str)) (ht := rfl) (hd := by decide) hu (e_prop T.glo_Board T.c_Board T.pr_Board_movers (ok_g_Board_movers T) (hr.mono (by decide)) T.g_Board_movers_b (e_var 3 rfl (vL 3 rfl rfl rfl)) rfl) (e_vt (el_cons (hs := rfl) (e_var 0 rfl (vL 0 rfl rfl rfl)) (el_nil (t := .str))) rfl))) (.all rfl))) hN rfl (.inl rfl) (.inr rfl) rfl rfl rfl) (by simp only [okb, exb, l_relay])
set_option maxHeartbeats 400000 in
theorem ok_g_are_loads_2 (T : Tx K mg a) : FnOk P w K mg base (L2.CX P w) 2 (He.ga K "are_loads") a.g_are_loadsD ["loads", "nodes"] (spF K mg (.pr (.vtup (.tup (.pr .str (.pr .str .str)))) (.pr (.list .str) .nl)) (.d .bool) fun x => g_are_loads_2 x.1 x.2.1) := by
  refine fn_bodyD T.g_are_loads sc_g_are_loads rfl fun cdv A outer s H E hr tk po x => ?_
  have hN := sc_g_are_loads.nd
  have hu := hr.units
  exact bs_cast (bs_seqF (G := fun (s : Unit) => [.d (.vtup (.tup (.pr .str (.pr .str .str)))) x.1, .d (.list .str) x.2.1, .no, .no, .no]) (O := fun (y : Bool) => .rt (.d .bool) y) (j := fun y176 => y176) (hj := fun _ => rfl) (ho := fun _ => rfl) (s1_forF (hO := fun _ => rfl) (hix := fun _ => all_ix rfl) (hs := fun _ => rfl) (t := (.tup (.pr .str (.pr .str .str)))) (G := fun (s : Unit) => [.d (.vtup (.tup (.pr .str (.pr .str .str)))) x.1, .d (.list .str) x.2.1, .no, .no, .no]) (s0 := ()) (O := fun (y : Bool) => .rt (.d .bool) y) (f := (g_are_loads_2_b1 x.2.1)) po rfl (is_hid (i_vtup (e_var 0 rfl (vL 0 rfl rfl rfl)))) (g_tup (har := rfl) (hn := rfl) (hst := rfl) rfl (gs_cons (hs := rfl) (g_nm 2 (pg_name hN rfl (.inl rfl) (.inr rfl))) (gs_cons (hs := rfl) (g_nm 3 (pg_name hN rfl (.inl rfl) (.inr rfl))) (gs_one (ht := rfl) (hs := rfl) (g_nm 4 (pg_name hN rfl (.inl rfl) (.inr rfl))))))) (fun s170 p171 => bs_cast (bs_one (s1_if (t_not (t_of (he := fun _ => rfl) (e_call (hdb := rfl) (he := rfl) (hpl := rfl) (ok_g_is_between T) (hr.mono (by decide)) rfl T.glo_is_between T.g_is_between.kp T.g_is_between_b tk (ea_cons (hs := rfl) (e_var 3 rfl (vL 3 rfl rfl rfl)) (ea_cons (hs := rfl) (e_var 4 rfl (vL 4 rfl rfl rfl)) (ea_cons (hs := rfl) (e_var 1 rfl (vL 1 rfl rfl rfl)) ea_nil)))))) (bs_ret (b := fun y173 => (Lp.out y173)) e_bool (.all rfl) (hI := fun _ => rfl)) (bs_nil (b := (Lp.go ())) rfl (.same (.same (.no (.no (.no .nil)))))))) (by simp only [okb, exb, g_are_loads_2_b1])) (.same (.same (.same (.same (.same .nil)))))) (fun s175 => b_ret e_bool (.all rfl))) (by simp only [okb, exb, g_are_loads_2])
set_option maxHeartbeats 400000 in
theorem ok_g_Board_init_2 (T : Tx K mg a) : FnOk P w K mg base (L2.CX P w) 3 (methAt K "Board" "__init__") a.g_Board_initD ["self", "nodes", "lamps", "switches", "relays", "contacts"] (spI K mg "Board" (.pr (.list .str) (.pr (.list (.tup (.pr .str (.pr .str .str)))) (.pr (.list .str) (.pr (.vtup (.tup (.pr .str (.pr .str .str)))) (.pr (.vtup (.tup (.pr .str (.pr .str (.pr (.opt .str) (.pr .str .str)))))) .nl))))) ns_Board fo_Board fun x => g_Board_init_2 x.1 x.2.1 x.2.2.1 x.2.2.2.1 x.2.2.2.2.1) := by
  refine fn_bodyI (n := 5) T.g_Board_init sc_g_Board_init rfl rfl (by decide) fun cdv A outer s H E hr tk po x => ?_
  have hN := sc_g_Board_init.nd
  have hu := hr.units
  exact bs_cast (bs_ifL (γ := Empty) (I' := fun z => nomatch z) (fun z => nomatch z) (t_w (w_or (t_not (t_of (he := fun _ => rfl) (e_call (hdb := rfl) (he := rfl) (hpl := rfl) (ok_g_are_names T) (hr.mono (by decide)) rfl T.glo_are_names T.g_are_names.kp T.g_are_names_b tk (ea_cons (hs := rfl) (e_var 1 rfl (vL 1 rfl rfl rfl)) (ea_cons (hs := rfl) e_int (ea_cons (hs := rfl) (e_cval (t := .int) rfl T.glo_Board T.rd_Board (Classical.choose_spec T.cv_Board_MOST_NODES) rfl (fun _ => rfl) rfl) ea_nil)))))) (w_or1 (t_c2 (hm := mark_of _ rfl) (c_gt (e_lenL (hs := rfl) rfl T.b_len (e_var 3 rfl (vL 3 rfl rfl rfl))) (e_cval (t := .int) rfl T.glo_Board T.rd_Board (Classical.choose_spec T.cv_Board_MOST_SWITCHES) rfl (fun _ => rfl) rfl)))))) (b_raise "InvalidBoard" rfl tk T.glo_InvalidBoard (pmk_own PySem.F.excBase_ValueError T.ex_InvalidBoard.1 T.glo_InvalidBoard T.ex_InvalidBoard.2.1 (raises_own T.ex_InvalidBoard.2.2.1 T.ex_InvalidBoard.2.2.2) rfl rfl)) (b_setF (o := .l (.d .str)) 6 (e_catL (e_frz (o := .l (.d .str)) (e_listL (t := .str) (hs := rfl) rfl T.b_list (e_var 3 rfl (vL 3 rfl rfl rfl)))) (e_frz (o := .l (.d .str)) (e_lc (hs := fun _ => rfl) (his := by decide) rfl hN (own := [("relay", 8)]) (blk_by N_g_Board_init (defScope s_g_Board_init) (by decide +kernel)) (i_vtup (e_var 4 rfl (vL 4 rfl rfl rfl))) (fun _ _ _ _ _ => (g_nm 8 (pg_name hN rfl (.inl rfl) (.inr rfl)))) (fun relay161 _ _ _ _ _ => ts_nil) (fun relay161 _ _ _ _ _ => (e_fld (hi := rfl) (hs := fun _ _ => rfl) (e_var 8 rfl (vL 8 rfl rfl rfl)) .hd))))) (.all rfl) (fun movers_163 => bs_ifL (γ := Empty) (I' := fun z => nomatch z) (fun z => nomatch z) (t_w (w_or (t_not (t_of (he := fun _ => rfl) (e_call (hdb := rfl) (he := rfl) (hpl := rfl) (ok_g_are_names T) (hr.mono (by decide)) rfl T.glo_are_names T.g_are_names.kp T.g_are_names_b tk (ea_cons (hs := rfl) (e_var 6 rfl (vL 6 rfl rfl rfl)) (ea_cons (hs := rfl) e_int (ea_cons (hs := rfl) (e_add (e_cval (t := .int) rfl T.glo_Board T.rd_Board (Classical.choose_spec T.cv_Board_MOST_SWITCHES) rfl (fun _ => rfl) rfl) (e_cval (t := .int) rfl T.glo_Board T.rd_Board (Classical.choose_spec T.cv_Board_MOST_RELAYS) rfl (fun _ => rfl) rfl)) ea_nil)))))) (w_or1 (t_c2 (hm := mark_of _ rfl) (c_gt (e_lenT (hs := rfl) rfl T.b_len (e_var 4 rfl (vL 4 rfl rfl rfl))) (e_cval (t := .int) rfl T.glo_Board T.rd_Board (Classical.choose_spec T.cv_Board_MOST_RELAYS) rfl (fun _ => rfl) rfl)))))) (b_raise "InvalidBoard" rfl tk T.glo_InvalidBoard (pmk_own PySem.F.excBase_ValueError T.ex_InvalidBoard.1 T.glo_InvalidBoard T.ex_InvalidBoard.2.1 (raises_own T.ex_InvalidBoard.2.2.1 T.ex_InvalidBoard.2.2.2) rfl rfl)) (bs_ifL (γ := Empty) (I' := fun z => nomatch z) (fun z => nomatch z) (t_not (t_of (he := fun _ => rfl) (e_call (hdb := rfl) (he := rfl) (hpl := rfl) (ok_g_are_names T) (hr.mono (by decide)) rfl T.glo_are_names T.g_are_names.kp T.g_are_names_b tk (ea_cons (hs := rfl) (e_frz (o := .l (.d .str)) (e_lc (hs := fun _ => rfl) (his := by decide) rfl hN (own := [("lamp", 9)]) (blk_by N_g_Board_init (defScope s_g_Board_init) (by decide +kernel)) (i_list (e_var 2 rfl (vL 2 rfl rfl rfl))) (fun _ _ _ _ _ => (g_nm 9 (pg_name hN rfl (.inl rfl) (.inr rfl)))) (fun lamp166 _ _ _ _ _ => ts_nil) (fun lamp166 _ _ _ _ _ => (e_fld (hi := rfl) (hs := fun _ _ => rfl) (e_var 9 rfl (vL 9 rfl rfl rfl)) .hd)))) (ea_cons (hs := rfl) e_int (ea_cons (hs := rfl) (e_cval (t := .int) rfl T.glo_Board T.rd_Board (Classical.choose_spec T.cv_Board_MOST_LAMPS) rfl (fun _ => rfl) rfl) ea_nil)))))) (b_raise "InvalidBoard" rfl tk T.glo_InvalidBoard (pmk_own PySem.F.excBase_ValueError T.ex_InvalidBoard.1 T.glo_InvalidBoard T.ex_InvalidBoard.2.1 (raises_own T.ex_InvalidBoard.2.2.1 T.ex_InvalidBoard.2.2.2) rfl rfl)) (bs_ifL (γ := Empty) (I' := fun z => nomatch z) (fun z => nomatch z) (t_w (w_or (t_not (t_of (he := fun _ => rfl) (e_call (hdb := rfl) (he := rfl) (hpl := rfl) (ok_g_are_loads_2 T) (hr.mono (by decide)) rfl T.glo_are_loads T.g_are_loads.kp T.g_are_loads_b tk (ea_cons (hs := rfl) (e_var 4 rfl (vL 4 rfl rfl rfl)) (ea_cons (hs := rfl) (e_var 1 rfl (vL 1 rfl rfl rfl)) ea_nil))))) (w_or1 (t_not (t_of (he := fun _ => rfl) (e_call (hdb := rfl) (he := rfl) (hpl := rfl) (ok_g_are_loads T) (hr.mono (by decide)) rfl T.glo_are_loads T.g_are_loads.kp T.g_are_loads_b tk (ea_cons (hs := rfl) (e_var 2 rfl (vL 2 rfl rfl rfl)) (ea_cons (hs := rfl) (e_var 1 rfl (vL 1 rfl rfl rfl)) ea_nil)))))))) (b_raise "InvalidBoard" rfl tk T.glo_InvalidBoard (pmk_own PySem.F.excBase_ValueError T.ex_InvalidBoard.1 T.glo_InvalidBoard T.ex_InvalidBoard.2.1 (raises_own T.ex_InvalidBoard.2.2.1 T.ex_InvalidBoard.2.2.2) rfl rfl)) (bs_ifL (γ := Empty) (I' := fun z => nomatch z) (fun z => nomatch z) (t_c2 (hm := mark_of _ rfl) (c_gt (e_lenT (hs := rfl) rfl T.b_len (e_var 5 rfl (vL 5 rfl rfl rfl))) (e_cval (t := .int) rfl T.glo_Board T.rd_Board (Classical.choose_spec T.cv_Board_MOST_CONTACTS) rfl (fun _ => rfl) rfl))) (b_raise "InvalidBoard" rfl tk T.glo_InvalidBoard (pmk_own PySem.F.excBase_ValueError T.ex_InvalidBoard.1 T.glo_InvalidBoard T.ex_InvalidBoard.2.1 (raises_own T.ex_InvalidBoard.2.2.1 T.ex_InvalidBoard.2.2.2) rfl rfl)) (bs_seq (G := fun (s : Unit) => [.o (.ins "Board" [] .nl) (), .d (.list .str) x.1, .d (.list (.tup (.pr .str (.pr .str .str)))) x.2.1, .d (.list .str) x.2.2.1, .d (.vtup (.tup (.pr .str (.pr .str .str)))) x.2.2.2.1, .d (.vtup (.tup (.pr .str (.pr .str (.pr (.opt .str) (.pr .str .str)))))) x.2.2.2.2.1, .d (.list .str) movers_163, .no, .no, .no]) (s1_for (hix := fun _ => all_ix rfl) (hs := fun _ => rfl) (t := (.tup (.pr .str (.pr .str (.pr (.opt .str) (.pr .str .str)))))) (G := fun (s : Unit) => [.o (.ins "Board" [] .nl) (), .d (.list .str) x.1, .d (.list (.tup (.pr .str (.pr .str .str)))) x.2.1, .d (.list .str) x.2.2.1, .d (.vtup (.tup (.pr .str (.pr .str .str)))) x.2.2.2.1, .d (.vtup (.tup (.pr .str (.pr .str (.pr (.opt .str) (.pr .str .str)))))) x.2.2.2.2.1, .d (.list .str) movers_163, .no, .no, .no]) (s0 := ()) (f := (g_Board_init_2_b1 x.1 movers_163)) po rfl (is_hid (i_vtup (e_var 5 rfl (vL 5 rfl rfl rfl)))) (g_nm 7 (pg_name hN rfl (.inl rfl) (.inr rfl))) (fun s180 contact181 => bs_cast (bs_one (s1_if (t_not (t_of (he := fun _ => rfl) (e_call (hdb := rfl) (he := rfl) (hpl := rfl) (ok_g_is_contact T) (hr.mono (by decide)) rfl T.glo_is_contact T.g_is_contact.kp T.g_is_contact_b tk (ea_cons (hs := rfl) (e_var 7 rfl (vL 7 rfl rfl rfl)) (ea_cons (hs := rfl) (e_var 1 rfl (vL 1 rfl rfl rfl)) (ea_cons (hs := rfl) (e_var 6 rfl (vL 6 rfl rfl rfl)) ea_nil)))))) (b_raise "InvalidBoard" rfl tk T.glo_InvalidBoard (pmk_own PySem.F.excBase_ValueError T.ex_InvalidBoard.1 T.glo_InvalidBoard T.ex_InvalidBoard.2.1 (raises_own T.ex_InvalidBoard.2.2.1 T.ex_InvalidBoard.2.2.2) rfl rfl)) (bs_nil (b := ()) rfl (.same (.same (.same (.same (.same (.same (.same (.no (.same (.same .nil))))))))))))) (by simp only [okb, exb, g_Board_init_2_b1])) (.same (.same (.same (.same (.same (.same (.same (.same (.same (.same .nil))))))))))) (fun s184 => b_fld (t := (.vtup .str)) 0 rfl (vL 0 rfl rfl rfl) T.glo_Board T.c_Board T.na_Board_nodes rfl rfl rfl (by exact e_tupL (t := .str) (hs := rfl) rfl T.b_tuple (e_var 1 rfl (vL 1 rfl rfl rfl))) (.all rfl) (fun nodes_185 => b_fld (t := (.vtup .str)) 0 rfl (vL 0 rfl rfl rfl) T.glo_Board T.c_Board T.na_Board_switches rfl rfl rfl (by exact e_tupL (t := .str) (hs := rfl) rfl T.b_tuple (e_var 3 rfl (vL 3 rfl rfl rfl))) (.all rfl) (fun switches_186 => b_fld (t := (.vtup (.tup (.pr .str (.pr .str .str))))) 0 rfl (vL 0 rfl rfl rfl) T.glo_Board T.c_Board T.na_Board_relays rfl rfl rfl (by exact e_tupL (t := (.tup (.pr .str (.pr .str .str)))) (hs := rfl) rfl T.b_tuple (e_frz (o := .l (.d (.tup (.pr .str (.pr .str .str))))) (e_lc (hs := fun _ => rfl) (his := by decide) rfl hN (own := [("relay", 8)]) (blk_by N_g_Board_init (defScope s_g_Board_init) (by decide +kernel)) (i_vtup (e_var 4 rfl (vL 4 rfl rfl rfl))) (fun _ _ _ _ _ => (g_nm 8 (pg_name hN rfl (.inl rfl) (.inr rfl)))) (fun relay187 _ _ _ _ _ => ts_nil) (fun relay187 _ _ _ _ _ => (e_tupU (hs := rfl) rfl T.b_tuple (e_var 8 rfl (vL 8 rfl rfl rfl))))))) (.all rfl) (fun relays_188 => b_fld (t := (.vtup (.tup (.pr .str (.pr .str .str))))) 0 rfl (vL 0 rfl rfl rfl) T.glo_Board T.c_Board T.na_Board_lamps rfl rfl rfl (by exact e_tupL (t := (.tup (.pr .str (.pr .str .str)))) (hs := rfl) rfl T.b_tuple (e_frz (o := .l (.d (.tup (.pr .str (.pr .str .str))))) (e_lc (hs := fun _ => rfl) (his := by decide) rfl hN (own := [("lamp", 9)]) (blk_by N_g_Board_init (defScope s_g_Board_init) (by decide +kernel)) (i_list (e_var 2 rfl (vL 2 rfl rfl rfl))) (fun _ _ _ _ _ => (g_nm 9 (pg_name hN rfl (.inl rfl) (.inr rfl)))) (fun lamp189 _ _ _ _ _ => ts_nil) (fun lamp189 _ _ _ _ _ => (e_tupU (hs := rfl) rfl T.b_tuple (e_var 9 rfl (vL 9 rfl rfl rfl))))))) (.all rfl) (fun lamps_190 => b_fld (t := (.vtup (.tup (.pr .str (.pr .str (.pr (.opt .str) (.pr .str .str))))))) 0 rfl (vL 0 rfl rfl rfl) T.glo_Board T.c_Board T.na_Board_contacts rfl rfl rfl (by exact e_tupL (t := (.tup (.pr .str (.pr .str (.pr (.opt .str) (.pr .str .str)))))) (hs := rfl) rfl T.b_tuple (e_frz (o := .l (.d (.tup (.pr .str (.pr .str (.pr (.opt .str) (.pr .str .str))))))) (e_lc (hs := fun _ => rfl) (his := by decide) rfl hN (own := [("contact", 7)]) (blk_by N_g_Board_init (defScope s_g_Board_init) (by decide +kernel)) (i_vtup (e_var 5 rfl (vL 5 rfl rfl rfl))) (fun _ _ _ _ _ => (g_nm 7 (pg_name hN rfl (.inl rfl) (.inr rfl)))) (fun contact191 _ _ _ _ _ => ts_nil) (fun contact191 _ _ _ _ _ => (e_tupU (hs := rfl) rfl T.b_tuple (e_var 7 rfl (vL 7 rfl rfl rfl))))))) (.all rfl) (fun contacts_192 => bs_nil (b := (nodes_185, switches_186, relays_188, lamps_190, contacts_192, ())) rfl (.same (.no (.no (.no (.no (.no (.no (.same (.same (.same .nil))))))))))) rfl) rfl) rfl) rfl) rfl)) (fun z => nomatch z) (fun z => nomatch z)) (fun z => nomatch z) (fun z => nomatch z)) (fun z => nomatch z) (fun z => nomatch z)) (fun z => nomatch z) (fun z => nomatch z)) hN rfl (.inl rfl) (.inr rfl) rfl rfl rfl) (fun z => nomatch z) (fun z => nomatch z)) (by simp only [okb, exb, g_Board_init_2])
set_option maxHeartbeats 400000 in
theorem ok_l_taken (T : Tx K mg a) : FnOk P w K mg base (L2.CX P w) 5 (He.ga K "_law_taken") a.l_takenD ["_law_nodes", "_law_switches", "_law_lamp"] (spF K mg (.pr (.list .str) (.pr (.list .str) (.pr .str .nl))) (.d .bool) fun x => l_taken x.1 x.2.1 x.2.2.1) := by
  refine fn_bodyD T.l_taken sc_l_taken rfl fun cdv A outer s H E hr tk po x => ?_
  have hN := sc_l_taken.nd
  have hu := hr.units
  exact bs_cast (bs_seqF (G := fun (s : D_Board) => [.d (.list .str) x.1, .d (.list .str) x.2.1, .d .str x.2.2.1, .d (.ins "Board" ns_Board fo_Board.ty) s, .no]) (O := fun (y : Bool) => .rt (.d .bool) y) (j := fun y208 => y208) (hj := fun _ => rfl) (ho := fun _ => rfl) (s1_try (l := [("InvalidBoard", true)]) [0, 1, 2, 4] rfl rfl ⟨rfl, rfl, .inl T.glo_InvalidBoard⟩ tk rfl (by decide) rfl (sub_cons T.glo_InvalidBoard T.xm_InvalidBoard_InvalidBoard sub_nil) (fun W1 pn xe tk po => b_setF (o := .ins "Board" ns_Board fo_Board) 3 (e_newK (ts := (.pr (.list .str) (.pr (.list (.tup (.pr .str (.pr .str .str)))) (.pr (.list .str) (.pr (.vtup (.tup (.pr .str (.pr .str .str)))) (.pr (.vtup (.tup (.pr .str (.pr .str (.pr (.opt .str) (.pr .str .str)))))) .nl)))))) (us := (.pr (.list .str) (.pr (.list .str) (.pr (.list (.tup (.pr .str (.pr .str .str)))) .nl)))) (π := fun y => (y.1, y.2.2.1, y.2.1, [], [], ())) T.mk_Board (ok_g_Board_init_2 T) (hr.mono (by decide)) rfl T.glo_Board (Classical.choose_spec (kb_Board_2 T)) tk (fun F y zs q h => by
    obtain ⟨w0, r0, rfl, h0, w1, r1, rfl, h1, w2, r2, rfl, h2, rfl⟩ := h
    exact ⟨_, rfl, _, _, rfl, h0, _, _, rfl, h2, _, _, rfl, h1, _, _, rfl, ⟨_, _, rfl, T.kd_Board_relays F, True.intro⟩, _, _, rfl, ⟨_, _, rfl, T.kd_Board_contacts F, True.intro⟩, rfl⟩) rfl (ek_cons (e_var 0 rfl (vL 0 rfl rfl rfl)) (ek_cons (e_var 1 rfl (vL 1 rfl rfl rfl)) (ek_cons (e_frz (o := .l (.d (.tup (.pr .str (.pr .str .str))))) (e_lst (n := 1) (hl := by decide) (el_cons (hs := rfl) (e_tup (hl := rfl) (ea_cons (hs := rfl) (e_var 2 rfl (vL 2 rfl rfl rfl)) (ea_cons (hs := rfl) (e_ixL (hs := fun _ _ => rfl) (e_var 0 rfl (vL 0 rfl rfl rfl)) e_int) (ea_one (hs := rfl) (e_ixL (hs := fun _ _ => rfl) (e_var 0 rfl (vL 0 rfl rfl rfl)) e_int))))) (el_nil (t := (.tup (.pr .str (.pr .str .str)))))))) ek_nil))) rfl rfl rfl rfl) (.all rfl) (fun board_205 => bs_nil (b := (Fw.go board_205)) rfl (.same (.same (.same (.same (.same .nil)))))) hN rfl (.inl rfl) (.inr rfl) rfl rfl rfl) (fun a0 oe pn => bs_ret (b := fun y206 => (Fw.out y206)) e_bool (.all rfl) (hI := fun _ => rfl))) (fun s207 => b_ret (e_and (e_c2 (hm := mark_of _ rfl) (c_eq (t := (.vtup .str)) (ht := rfl) (hd := by decide) hu (e_attr (t := (.vtup .str)) (n := 0) T.glo_Board T.c_Board T.na_Board_nodes rfl .hd (e_var 3 rfl (vL 3 rfl rfl rfl)) rfl) (by exact e_tupL (t := .str) (hs := rfl) rfl T.b_tuple (e_var 0 rfl (vL 0 rfl rfl rfl))))) (e_b1 (e_c2 (hm := mark_of _ rfl) (c_eq (t := (.vtup .str)) (ht := rfl) (hd := by decide) hu (e_attr (t := (.vtup .str)) (n := 1) T.glo_Board T.c_Board T.na_Board_switches rfl (.tl .hd) (e_var 3 rfl (vL 3 rfl rfl rfl)) rfl) (by exact e_tupL (t := .str) (hs := rfl) rfl T.b_tuple (e_var 1 rfl (vL 1 rfl rfl rfl))))))) (.all rfl))) (by simp only [okb, exb, l_taken])
set_option maxHeartbeats 400000 in
theorem ok_l_law (T : Tx K mg a) : FnOk P w K mg base (L2.CX P w) 6 (He.ga K "law") a.l_lawD ["_law_script"] (spF K mg (.pr .scr .nl) (.d .bool) fun x => l_law x.1) := by
  refine fn_bodyD T.l_law sc_l_law rfl fun cdv A outer s H E hr tk po x => ?_
  have hN := sc_l_law.nd
  have hu := hr.units
  exact bs_cast (b_setF (o := .l (.d .int)) 1 (e_call (hdb := rfl) (he := rfl) (hpl := rfl) (ok_l_numbers T) (hr.mono (by decide)) rfl T.glo__law_numbers T.l_numbers.kp T.l_numbers_b tk (ea_cons (hs := rfl) (e_var 0 rfl (vL 0 rfl rfl rfl)) (ea_cons (hs := rfl) e_int ea_nil))) (.all rfl) (fun numbers_here_37 => b_set (r := .d .str) 2 e_str (.all rfl) (fun good_38 => b_set (r := .d .str) 3 e_str (.all rfl) (fun all_chars_39 => b_set (r := .d .str) 3 (e_cat (e_var 3 rfl (vL 3 rfl rfl rfl)) e_str) (.all rfl) (fun all_chars_40 => b_set (r := .d .str) 4 e_str (.all rfl) (fun text_41 => bs_seq (G := fun (s : Str) => [.d .scr x.1, .d (.list .int) numbers_here_37, .d .str good_38, .d .str all_chars_40, .d .str s, .no, .no, .no, .no, .no, .no]) (s1_for (hix := fun _ => all_ix rfl) (hs := fun _ => rfl) (t := .int) (G := fun (s : Str) => [.d .scr x.1, .d (.list .int) numbers_here_37, .d .str good_38, .d .str all_chars_40, .d .str s, .no, .no, .no, .no, .no, .no]) (s0 := text_41) (f := (l_law_b1 numbers_here_37 good_38)) po rfl (is_ran (r_ran1 (hs := rfl) rfl T.b_range (e_mod (e_intI (hs := rfl) rfl T.b_int (e_ixL (hs := fun _ _ => rfl) (e_var 1 rfl (vL 1 rfl rfl rfl)) e_int)) e_int))) (g_nm 5 (pg_name hN rfl (.inl rfl) (.inr rfl))) (fun s44 k45 => bs_cast (b_set (r := .d .str) 4 (e_cat (e_var 4 rfl (vL 4 rfl rfl rfl)) (e_ixS (hs := fun _ _ => rfl) (e_var 2 rfl (vL 2 rfl rfl rfl)) (e_mod (e_intI (hs := rfl) rfl T.b_int (e_ixL (hs := fun _ _ => rfl) (e_var 1 rfl (vL 1 rfl rfl rfl)) (e_add e_int (e_var 5 rfl (vL 5 rfl rfl rfl))))) e_int))) (.all rfl) (fun text_49 => bs_nil (b := text_49) rfl (.same (.same (.same (.same (.same (.no (.same (.same (.same (.same (.same .nil)))))))))))) hN rfl (.inl rfl) (.inr rfl) rfl rfl rfl) (by simp only [okb, exb, l_law_b1])) (.same (.same (.same (.same (.same (.same (.same (.same (.same (.same (.same .nil)))))))))))) (fun s50 => bs_seq (G := fun (s : Str) => [.d .scr x.1, .d (.list .int) numbers_here_37, .d .str good_38, .d .str all_chars_40, .d .str s, .no, .no, .no, .no, .no, .no]) (s1_if (t_w (w_and (t_c2 (hm := mark_of _ rfl) (c_eq (t := .int) (ht := rfl) (hd := by decide) hu (e_mod (e_intI (hs := rfl) rfl T.b_int (e_ixL (hs := fun _ _ => rfl) (e_var 1 rfl (vL 1 rfl rfl rfl)) e_int)) e_int) e_int)) (w_and1 (t_c2 (hm := mark_of _ rfl) (c_gt (e_lenS (hs := rfl) rfl T.b_len (e_var 4 rfl (vL 4 rfl rfl rfl))) e_int))))) (b_set (r := .d .int) 6 (e_mod (e_intI (hs := rfl) rfl T.b_int (e_ixL (hs := fun _ _ => rfl) (e_var 1 rfl (vL 1 rfl rfl rfl)) e_int)) (e_lenS (hs := rfl) rfl T.b_len (e_var 4 rfl (vL 4 rfl rfl rfl)))) (.all rfl) (fun place_57 => b_set (r := .d .str) 4 (e_cat (e_cat (e_slS (e_var 4 rfl (vL 4 rfl rfl rfl)) p_none (p_some (e_var 6 rfl (vL 6 rfl rfl rfl)))) (e_ixS (hs := fun _ _ => rfl) (e_var 3 rfl (vL 3 rfl rfl rfl)) (e_mod (e_intI (hs := rfl) rfl T.b_int (e_ixL (hs := fun _ _ => rfl) (e_var 1 rfl (vL 1 rfl rfl rfl)) e_int)) (e_lenS (hs := rfl) rfl T.b_len (e_var 3 rfl (vL 3 rfl rfl rfl)))))) (e_slS (e_var 4 rfl (vL 4 rfl rfl rfl)) (p_some (e_add (e_var 6 rfl (vL 6 rfl rfl rfl)) e_int)) p_none)) (.all rfl) (fun text_65 => bs_nil (b := text_65) rfl (.same (.same (.same (.same (.same (.same (.no (.same (.same (.same (.same .nil)))))))))))) hN rfl (.inl rfl) (.inr rfl) rfl rfl rfl) hN rfl (.inl rfl) (.inr rfl) rfl rfl rfl) (bs_nil (b := s50) rfl (.same (.same (.same (.same (.same (.same (.same (.same (.same (.same (.same .nil))))))))))))) (fun s66 => b_set (r := .d .bool) 7 (e_chain (p1 := fun i j => decide (i ≤ j)) (p2 := fun i j => decide (i ≤ j)) op_le op_le (by with_unfolding_all rfl) e_int (e_lenS (hs := rfl) rfl T.b_len (e_var 4 rfl (vL 4 rfl rfl rfl))) e_int) (.all rfl) (fun due_69 => bs_seq (G := fun (s : Bool) => [.d .scr x.1, .d (.list .int) numbers_here_37, .d .str good_38, .d .str all_chars_40, .d .str s66, .no, .no, .d .bool s, .no, .no, .no]) (s1_for (hix := fun _ => all_ix rfl) (hs := fun _ => rfl) (t := .str) (G := fun (s : Bool) => [.d .scr x.1, .d (.list .int) numbers_here_37, .d .str good_38, .d .str all_chars_40, .d .str s66, .no, .no, .d .bool s, .no, .no, .no]) (s0 := due_69) (f := (l_law_b2 good_38)) po rfl (is_ran (r_str (e_var 4 rfl (vL 4 rfl rfl rfl)))) (g_nm 8 (pg_name hN rfl (.inl rfl) (.inr rfl))) (fun s70 char71 => bs_cast (bs_one (s1_if (t_c2 (hm := by with_unfolding_all rfl) (c_ninS (e_var 8 rfl (vL 8 rfl rfl rfl)) (e_var 2 rfl (vL 2 rfl rfl rfl)))) (b_set (r := .d .bool) 7 e_bool (.all rfl) (fun due_72 => bs_nil (b := due_72) rfl (.same (.same (.same (.same (.same (.same (.same (.same (.no (.same (.same .nil)))))))))))) hN rfl (.inl rfl) (.inr rfl) rfl rfl rfl) (bs_nil (b := s70) rfl (.same (.same (.same (.same (.same (.same (.same (.same (.no (.same (.same .nil)))))))))))))) (by simp only [okb, exb, l_law_b2])) (.same (.same (.same (.same (.same (.same (.same (.same (.same (.same (.same .nil)))))))))))) (fun s74 => b_set (r := .d .bool) 9 (e_smet rfl T.glo_Board T.rd_Board T.st_Board_is_name (ok_g_Board_is_name T) (hr.mono (by decide)) T.g_Board_is_name_b tk rfl (ea_cons (hs := rfl) (e_var 4 rfl (vL 4 rfl rfl rfl)) ea_nil) rfl rfl rfl) (.all rfl) (fun told_80 => bs_ifR (hI := fun _ => rfl) (t_w (w_or (t_not (t_of (he := fun _ => rfl) (e_isi (T := "bool") (T' := "bool") (res := true) (hs := rfl) rfl T.b_isinstance (e_var 9 rfl (vL 9 rfl rfl rfl)) rfl (n_ty rfl T.b_bool (by decide +kernel) (by decide) rfl) rfl))) (w_or1 (t_c2 (hm := mark_of _ rfl) (c_ne (t := .bool) (ht := rfl) (hd := by decide) hu (e_var 9 rfl (vL 9 rfl rfl rfl)) (e_var 7 rfl (vL 7 rfl rfl rfl))))))) (b_ret e_bool (.all rfl)) (b_set (r := .d .str) 10 e_str (.all rfl) (fun other_81 => bs_seq (G := fun (s : Str) => [.d .scr x.1, .d (.list .int) numbers_here_37, .d .str good_38, .d .str all_chars_40, .d .str s66, .no, .no, .d .bool s74, .no, .d .bool told_80, .d .str s]) (s1_if (t_c2 (hm := mark_of _ rfl) (c_eq (t := .str) (ht := rfl) (hd := by decide) hu (e_var 4 rfl (vL 4 rfl rfl rfl)) e_str)) (b_set (r := .d .str) 10 e_str (.all rfl) (fun other_82 => bs_nil (b := other_82) rfl (.same (.same (.same (.same (.same (.same (.same (.same (.same (.same (.same .nil)))))))))))) hN rfl (.inl rfl) (.inr rfl) rfl rfl rfl) (bs_nil (b := other_81) rfl (.same (.same (.same (.same (.same (.same (.same (.same (.same (.same (.same .nil))))))))))))) (fun s83 => bs_ifR (hI := fun _ => rfl) (t_c2 (hm := mark_of _ rfl) (c_ne (t := .bool) (ht := rfl) (hd := by decide) hu (e_call (hdb := rfl) (he := rfl) (hpl := rfl) (ok_l_relay T) (hr.mono (by decide)) rfl T.glo__law_relay T.l_relay.kp T.l_relay_b tk (ea_cons (hs := rfl) (e_var 4 rfl (vL 4 rfl rfl rfl)) (ea_cons (hs := rfl) (e_var 10 rfl (vL 10 rfl rfl rfl)) ea_nil))) (e_var 7 rfl (vL 7 rfl rfl rfl)))) (b_ret e_bool (.all rfl)) (bs_ifR (hI := fun _ => rfl) (t_w (w_or (t_c2 (hm := mark_of _ rfl) (c_ne (t := .bool) (ht := rfl) (hd := by decide) hu (e_call (hdb := rfl) (he := rfl) (hpl := rfl) (ok_l_taken T) (hr.mono (by decide)) rfl T.glo__law_taken T.l_taken.kp T.l_taken_b tk (ea_cons (hs := rfl) (e_frz (o := .l (.d .str)) (e_lst (n := 2) (hl := by decide) (el_cons (hs := rfl) (e_var 4 rfl (vL 4 rfl rfl rfl)) (el_cons (hs := rfl) (e_var 10 rfl (vL 10 rfl rfl rfl)) (el_nil (t := .str)))))) (ea_cons (hs := rfl) (e_frz (o := .l (.d .str)) (e_lst (n := 0) (hl := by decide) (el_nil (t := .str)))) (ea_cons (hs := rfl) e_str ea_nil)))) (e_var 7 rfl (vL 7 rfl rfl rfl)))) (w_or1 (t_c2 (hm := mark_of _ rfl) (c_ne (t := .bool) (ht := rfl) (hd := by decide) hu (e_call (hdb := rfl) (he := rfl) (hpl := rfl) (ok_l_taken T) (hr.mono (by decide)) rfl T.glo__law_taken T.l_taken.kp T.l_taken_b tk (ea_cons (hs := rfl) (e_frz (o := .l (.d .str)) (e_lst (n := 2) (hl := by decide) (el_cons (hs := rfl) (e_var 10 rfl (vL 10 rfl rfl rfl)) (el_cons (hs := rfl) (e_var 4 rfl (vL 4 rfl rfl rfl)) (el_nil (t := .str)))))) (ea_cons (hs := rfl) (e_frz (o := .l (.d .str)) (e_lst (n := 0) (hl := by decide) (el_nil (t := .str)))) (ea_cons (hs := rfl) e_str ea_nil)))) (e_var 7 rfl (vL 7 rfl rfl rfl))))))) (b_ret e_bool (.all rfl)) (b_ret (e_and (e_c2 (hm := mark_of _ rfl) (c_eq (t := .bool) (ht := rfl) (hd := by decide) hu (e_call (hdb := rfl) (he := rfl) (hpl := rfl) (ok_l_taken T) (hr.mono (by decide)) rfl T.glo__law_taken T.l_taken.kp T.l_taken_b tk (ea_cons (hs := rfl) (e_frz (o := .l (.d .str)) (e_lst (n := 2) (hl := by decide) (el_cons (hs := rfl) (e_var 10 rfl (vL 10 rfl rfl rfl)) (el_cons (hs := rfl) (e_cat e_str (e_var 10 rfl (vL 10 rfl rfl rfl))) (el_nil (t := .str)))))) (ea_cons (hs := rfl) (e_frz (o := .l (.d .str)) (e_lst (n := 1) (hl := by decide) (el_cons (hs := rfl) (e_var 4 rfl (vL 4 rfl rfl rfl)) (el_nil (t := .str))))) (ea_cons (hs := rfl) e_str ea_nil)))) (e_var 7 rfl (vL 7 rfl rfl rfl)))) (e_b1 (e_c2 (hm := mark_of _ rfl) (c_eq (t := .bool) (ht := rfl) (hd := by decide) hu (e_call (hdb := rfl) (he := rfl) (hpl := rfl) (ok_l_taken T) (hr.mono (by decide)) rfl T.glo__law_taken T.l_taken.kp T.l_taken_b tk (ea_cons (hs := rfl) (e_frz (o := .l (.d .str)) (e_lst (n := 2) (hl := by decide) (el_cons (hs := rfl) (e_var 10 rfl (vL 10 rfl rfl rfl)) (el_cons (hs := rfl) (e_cat e_str (e_var 10 rfl (vL 10 rfl rfl rfl))) (el_nil (t := .str)))))) (ea_cons (hs := rfl) (e_frz (o := .l (.d .str)) (e_lst (n := 0) (hl := by decide) (el_nil (t := .str)))) (ea_cons (hs := rfl) (e_var 4 rfl (vL 4 rfl rfl rfl)) ea_nil)))) (e_var 7 rfl (vL 7 rfl rfl rfl)))))) (.all rfl))))) hN rfl (.inl rfl) (.inr rfl) rfl rfl rfl)) hN rfl (.inl rfl) (.inr rfl) rfl rfl rfl)) hN rfl (.inl rfl) (.inr rfl) rfl rfl rfl))) hN rfl (.inl rfl) (.inr rfl) rfl rfl rfl) hN rfl (.inl rfl) (.inr rfl) rfl rfl rfl) hN rfl (.inl rfl) (.inr rfl) rfl rfl rfl) hN rfl (.inl rfl) (.inr rfl) rfl rfl rfl) hN rfl (.inl rfl) (.inr rfl) rfl rfl rfl) (by simp only [okb, exb, l_law])
end Lw
set_option Elab.async false
set_option linter.all false
set_option maxRecDepth 100000
set_option maxHeartbeats 1000000
namespace Lw
open PySem Gm
open L2 hiding app_ok
theorem mem_app1 {xs : List Int} {y : Int} (h : ∀ x ∈ xs, 0 ≤ x ∧ x < 1009) (hy : 0 ≤ y ∧ y < 1009) : ∀ x ∈ xs ++ [y], 0 ≤ x ∧ x < 1009 := fun x hx => by
  rcases List.mem_append.mp hx with hx | hx
  · exact h x hx
  · rw [List.mem_singleton.mp hx]; exact hy
theorem sat_row {c n : Int} (h0 : 0 ≤ n) (h1 : n ≤ 100000) : Sat (l_row c n) (fun l => l.length = n.toNat ∧ ∀ x ∈ l, 0 ≤ x ∧ x < 1009) := by
  unfold l_row
  simp only [okb, Mx.assoc]
  rw [ran_ok (by omega), okb]
  refine Sat.bind (sat_loop (fun i s => s.1.length = i ∧ ∀ x ∈ s.1, 0 ≤ x ∧ x < 1009) ⟨rfl, by simp⟩ fun i s x hx hs => ?_) fun s hs => Sat.ok ⟨by rw [hs.1, iran_len]; omega, hs.2⟩
  obtain ⟨e, hx0, hx1⟩ := iran_get hx
  obtain ⟨hl, hm⟩ := hs
  unfold l_row_b1
  simp only [okb, Mx.assoc]
  rw [pow_ok (by decide) (by decide) (by decide), okb]
  refine Sat.ite (fun _ => ?_) (fun _ => ?_)
  · rw [mod_ok (by decide), okb, app_ok (by omega), okb, div_ok (by decide) (by decide), okb]
    exact Sat.ok ⟨by simp [hl], mem_app1 hm ⟨Int.emod_nonneg _ (by decide), Int.emod_lt_of_pos _ (by decide)⟩⟩
  · rw [mul_r (by decide) (by decide), okb, mul_r (by decide) (by decide), okb, mod_ok (by decide), okb, mul_r (by decide) (by decide), okb, mul_l (by decide) (by decide), okb, mod_ok (by decide), okb, mod_ok (by decide), okb, app_ok (by omega), okb]
    exact Sat.ok ⟨by simp [hl], mem_app1 hm ⟨Int.emod_nonneg _ (by decide), Int.emod_lt_of_pos _ (by decide)⟩⟩
theorem cut_to {α : Type} (xs : List α) {n : Int} (h : 0 ≤ n) : cut xs none (some n) = xs.take n.toNat := by
  unfold cut
  have e : n = ((n.toNat : Nat) : Int) := by omega
  rw [HT.sIx_none, e, HT.sIx_nat, List.drop_zero, Nat.sub_zero]
  rw [show ((n.toNat : Nat) : Int).toNat = n.toNat by omega]
  rw [Nat.min_def]
  split
  · rfl
  · rw [List.take_of_length_le (by omega), List.take_of_length_le (by omega)]
theorem sat_numbers {ns : List Int} {n : Int} (h0 : 0 ≤ n) (h1 : n ≤ 10000) : Sat (l_numbers ns n) (fun l => l.length = n.toNat ∧ ∀ x ∈ l, 0 ≤ x ∧ x < 1009) := by
  unfold l_numbers
  simp only [okb, Mx.assoc]
  rw [cut_to _ (by decide)]
  generalize hc : ns.take (63 : Int).toNat = cs
  have hcl : cs.length ≤ 63 := by rw [← hc, List.length_take]; exact Nat.min_le_left _ _
  generalize hm : (if (cs.length : Int) > 1 then (cs.length : Int) else 1) = m
  have hm1 : 1 ≤ m ∧ m ≤ 63 := by rw [← hm]; split <;> omega
  rw [div_ok (by omega) (by omega), okb]
  generalize he : 1 + n / m = each
  have hdiv : 0 ≤ n / m ∧ n / m ≤ n := ⟨Int.ediv_nonneg h0 (by omega), Int.ediv_le_self _ h0⟩
  refine Sat.bind (sat_loop (fun i s => s.length ≤ i * 10001 ∧ ∀ x ∈ s, 0 ≤ x ∧ x < 1009) ⟨by simp, by simp⟩ fun i s x hx hs => ?_) fun s hs => ?_
  · have hi : i < cs.length := (List.getElem?_eq_some_iff.mp hx).1
    unfold l_numbers_b1
    simp only [okb, Mx.assoc]
    refine (sat_row (by omega) (by omega)).bind fun row hr => ?_
    have hrl : row.length ≤ 10001 := by omega
    refine Sat.bind (sat_loop (fun j s' => s'.length = s.length + j ∧ ∀ x ∈ s', 0 ≤ x ∧ x < 1009) ⟨rfl, hs.2⟩ fun j s' y hy hs' => ?_) fun s' hs' => Sat.ok ⟨?_, hs'.2⟩
    · have hj : j < row.length := (List.getElem?_eq_some_iff.mp hy).1
      unfold l_numbers_b2
      have : i * 10001 ≤ 63 * 10001 := Nat.mul_le_mul_right _ (by omega)
      rw [app_ok (by omega), okb]
      exact Sat.ok ⟨by simp [hs'.1]; omega, mem_app1 hs'.2 (hr.2 y (List.mem_iff_getElem?.mpr ⟨_, hy⟩))⟩
    · rw [Nat.add_mul]; omega
  · have hsl : s.length ≤ 63 * 10001 := Nat.le_trans hs.1 (Nat.mul_le_mul_right _ hcl)
    refine Sat.bind (sat_while (fun s => s.length ≤ 700000 ∧ ∀ x ∈ s, 0 ≤ x ∧ x < 1009) (fun s => n.toNat - s.length) (fun s => n.toNat ≤ s.length ∧ ∀ x ∈ s, 0 ≤ x ∧ x < 1009) (fun s hs => ?_) fuel s ⟨by omega, hs.2⟩ (by rw [fuel_eq]; omega)) fun s hs => ?_
    · unfold l_numbers_b3c
      refine Sat.ok ?_
      by_cases hlt : (s.length : Int) < n
      · rw [decide_eq_true hlt, if_pos rfl]
        unfold l_numbers_b3
        rw [app_ok (by omega), okb]
        exact Sat.ok ⟨⟨by simp; omega, mem_app1 hs.2 (by decide)⟩, by simp; omega⟩
      · rw [decide_eq_false hlt, if_neg Bool.false_ne_true]
        exact ⟨by omega, hs.2⟩
    · rw [cut_to _ h0]
      exact Sat.ok ⟨by rw [List.length_take]; omega, fun x hx => hs.2 x (List.mem_of_mem_take hx)⟩
end Lw
set_option Elab.async false
set_option linter.all false
set_option maxRecDepth 100000
set_option maxHeartbeats 1000000
namespace Lw
open PySem Gm
open L2 hiding app_ok
/-! ### names -/
abbrev al : Str := ("abcdefghijklmnopqrstuvwxyz0123456789" : Str)
def okName (t : Str) : Bool := (decide (1 ≤ t.length) && decide (t.length ≤ 12)) && (t.cps.toList.all fun c => decide (c ∈ al.cps.toList))
theorem inSO_one (c : Nat) (z : Str) : inSO ⟨#[c]⟩ z = some (decide (c ∈ z.cps.toList)) := rfl
theorem is_name_eq {t : Str} (h : t.length ≤ 16777216) : g_Board_is_name t = .ok (okName t) := by
  unfold g_Board_is_name okName
  simp only [okb, Mx.assoc]
  rw [lenS_ok h, okb]
  by_cases h1 : (1 : Int) ≤ (t.length : Int)
  · rw [if_pos (decide_eq_true h1), okb]
    by_cases h2 : (t.length : Int) ≤ 12
    · rw [decide_eq_true h2, Bool.not_true, if_neg Bool.false_ne_true]
      rw [Gm.comp_map (g := fun x => decide (∀ c ∈ x.cps.toList, c ∈ al.cps.toList)) (by simp [signs, size_eq]; exact h) fun x hx => ⟨rfl, ?_⟩, okb]
      · rw [decide_eq_true (by omega : 1 ≤ t.length), decide_eq_true (by omega : t.length ≤ 12)]
        congr 1
        simp [signs, List.all_map, Function.comp_def]
      · unfold signs at hx
        obtain ⟨c, _, rfl⟩ := List.mem_map.mp hx
        show ofO (inSO ⟨#[c]⟩ al) = _
        rw [inSO_one]
        show Mx.ok _ = Mx.ok _
        congr 1
        simp
    · rw [decide_eq_false h2, Bool.not_false, if_pos rfl, decide_eq_false (by omega : ¬ t.length ≤ 12)]
      simp
  · rw [decide_eq_false h1, if_neg Bool.false_ne_true, okb, Bool.not_false, if_pos rfl, decide_eq_false (by omega : ¬ 1 ≤ t.length)]
    simp
/-! ### a loop that only looks -/
theorem loopF_all {α : Type} {p : α → Bool} {f : Unit → α → Mx (Lp Unit Bool)} : ∀ {xs : List α}, (∀ x ∈ xs, f () x = .ok (if p x = true then .go () else .out false)) → (loopF xs () f >>= fwk (fun _ => Mx.ok true) (fun y => y)) = .ok (xs.all p)
  | [], _ => rfl
  | x :: xs, h => by
    unfold loopF
    rw [h x (List.mem_cons_self ..), okb]
    by_cases hp : p x = true
    · rw [if_pos hp, List.all_cons, hp, Bool.true_and]
      exact loopF_all fun y hy => h y (List.mem_cons_of_mem _ hy)
    · rw [if_neg hp, List.all_cons, show p x = false by simpa using hp, Bool.false_and]
      rfl
/-- a list without a repeat -/
def noRep (xs : List Str) : Bool := decide xs.Nodup
def okNames (xs : List Str) (lo hi : Int) : Bool := (decide (lo ≤ (xs.length : Int)) && decide ((xs.length : Int) ≤ hi)) && (xs.all okName && noRep xs)
theorem enum_all {xs : List Str} : ((enumL xs).all fun p => okName p.2 && !decide (p.2 ∈ cut xs none (some p.1))) = (xs.all okName && noRep xs) := by
  rw [Bool.eq_iff_iff]
  simp only [List.all_eq_true, Bool.and_eq_true, Bool.not_eq_true', decide_eq_false_iff_not, noRep, decide_eq_true_eq]
  constructor
  · intro h
    have at_ : ∀ (i : Nat) (x : Str), xs[i]? = some x → okName x = true ∧ x ∉ xs.take i := fun i x hx => by
      have := h _ (List.mem_iff_getElem?.mpr ⟨i, enumL_get hx⟩)
      rw [cut_to _ (by simp : (0 : Int) ≤ (i : Int))] at this
      exact ⟨this.1, by simpa using this.2⟩
    refine ⟨fun x hx => ?_, ?_⟩
    · obtain ⟨i, hi⟩ := List.mem_iff_getElem?.mp hx
      exact (at_ i x hi).1
    · rw [List.nodup_iff_pairwise_ne, List.pairwise_iff_getElem]
      intro i j hi hj hij e
      refine (at_ j xs[j] (List.getElem?_eq_getElem hj)).2 ?_
      rw [← e]
      exact List.mem_iff_getElem?.mpr ⟨i, by rw [List.getElem?_take_of_lt hij]; exact List.getElem?_eq_getElem hi⟩
  · intro ⟨h1, h2⟩ p hp
    obtain ⟨i, hi⟩ := List.mem_iff_getElem?.mp hp
    have hil : i < xs.length := by
      have := (List.getElem?_eq_some_iff.mp hi).1
      rwa [enumL_len] at this
    have e := (enumL_get (List.getElem?_eq_getElem hil)).symm.trans hi
    cases e
    refine ⟨h1 _ (List.getElem_mem hil), ?_⟩
    rw [cut_to _ (by simp : (0 : Int) ≤ (i : Int))]
    intro hm
    obtain ⟨j, hj⟩ := List.mem_iff_getElem?.mp hm
    have hji : j < i := by
      have := (List.getElem?_eq_some_iff.mp hj).1
      rw [List.length_take] at this
      simp at this; omega
    rw [show ((i : Nat) : Int).toNat = i by simp, List.getElem?_take_of_lt hji, List.getElem?_eq_getElem (by omega)] at hj
    rw [List.nodup_iff_pairwise_ne, List.pairwise_iff_getElem] at h2
    exact h2 j i (by omega) hil hji (Option.some.inj hj)
theorem are_names_eq {xs : List Str} {lo hi : Int} (hx : ∀ x ∈ xs, x.length ≤ 16777216) : g_are_names xs lo hi = .ok (okNames xs lo hi) := by
  unfold g_are_names okNames
  have body : ∀ p ∈ enumL xs, g_are_names_b1 xs () p = .ok (if (okName p.2 && !decide (p.2 ∈ cut xs none (some p.1))) = true then .go () else .out false) := fun p hp => by
    have hm : p.2 ∈ xs := by
      obtain ⟨i, hi⟩ := List.mem_iff_getElem?.mp hp
      have hil : i < xs.length := by
        have := (List.getElem?_eq_some_iff.mp hi).1
        rwa [enumL_len] at this
      have e := (enumL_get (List.getElem?_eq_getElem hil)).symm.trans hi
      cases e
      exact List.getElem_mem hil
    unfold g_are_names_b1
    simp only [okb, Mx.assoc]
    rw [is_name_eq (hx _ hm), okb]
    cases okName p.2 <;> cases decide (p.2 ∈ cut xs none (some p.1)) <;> rfl
  have e2 := loopF_all body
  rw [enum_all] at e2
  simp only [okb, Mx.assoc]
  by_cases h1 : lo ≤ (xs.length : Int)
  · rw [if_pos (decide_eq_true h1), okb]
    by_cases h2 : (xs.length : Int) ≤ hi
    · rw [decide_eq_true h2, Bool.not_true, if_neg Bool.false_ne_true, e2, decide_eq_true h1]
      rfl
    · rw [decide_eq_false h2, Bool.not_false, if_pos rfl, Bool.and_false, Bool.false_and]
  · rw [decide_eq_false h1, if_neg Bool.false_ne_true, okb, Bool.not_false, if_pos rfl, Bool.false_and, Bool.false_and]
end Lw
set_option Elab.async false
set_option linter.all false
set_option maxRecDepth 100000
set_option maxHeartbeats 1000000
namespace Lw
open PySem Gm
open L2 hiding app_ok
/-! ### parts of a board -/
def okEnds (a b : Str) (n : List Str) : Bool := decide (a ∈ n) && (decide (b ∈ n) && !decide (a = b))
theorem between_eq {a b : Str} {n : List Str} : g_is_between a b n = .ok (okEnds a b n) := by
  unfold g_is_between okEnds
  cases decide (a ∈ n) <;> cases decide (b ∈ n) <;> rfl
theorem loads_eq {l : List (Str × Str × Str)} {n : List Str} : g_are_loads l n = .ok (l.all fun x => okEnds x.2.1 x.2.2 n) := by
  unfold g_are_loads
  refine loopF_all fun x _ => ?_
  unfold g_are_loads_b1
  simp only [okb, Mx.assoc]
  rw [between_eq, okb]
  cases okEnds x.2.1 x.2.2 n <;> rfl
abbrev Con : Type := Str × Str × (Option Str) × Str × Str
def okCon (c : Con) (n m : List Str) : Bool := okEnds c.1 c.2.1 n && (decide (c.2.2.2.1 ∈ [("make" : Str), ("break" : Str)]) && (decide (c.2.2.2.2 ∈ [("both" : Str), ("forward" : Str)]) &&
  (match c.2.2.1 with
  | none => decide (c.2.2.2.1 = ("make" : Str))
  | some x => decide (x ∈ m))))
theorem contact_eq {c : Con} {n m : List Str} : g_is_contact c n m = .ok (okCon c n m) := by
  unfold g_is_contact okCon
  simp only [okb, Mx.assoc]
  rw [between_eq, okb]
  obtain ⟨c1, c2, c3, c4, c5⟩ := c
  simp only
  cases okEnds c1 c2 n
  · rfl
  · simp only [Bool.not_true, Bool.false_eq_true, if_false, Bool.true_and]
    cases decide (c4 ∈ [("make" : Str), ("break" : Str)])
    · rfl
    · simp only [Bool.not_true, Bool.false_eq_true, if_false, Bool.true_and, okb]
      cases decide (c5 ∈ [("both" : Str), ("forward" : Str)])
      · rfl
      · cases c3 <;> rfl
def bad : Exn := ⟨"InvalidBoard", "", .n⟩
theorem loop_chk {α : Type} {p : α → Bool} {f : Unit → α → Mx Unit} : ∀ {xs : List α}, (∀ x ∈ xs, f () x = if p x = true then .ok () else .ex bad) → loopS xs () f = if xs.all p = true then .ok () else .ex bad
  | [], _ => rfl
  | x :: xs, h => by
    unfold loopS
    rw [h x (List.mem_cons_self ..), List.all_cons]
    by_cases hp : p x = true
    · rw [if_pos hp, okb, hp, Bool.true_and]
      exact loop_chk fun y hy => h y (List.mem_cons_of_mem _ hy)
    · rw [if_neg hp, exb, show p x = false by simpa using hp, Bool.false_and, if_neg Bool.false_ne_true]
theorem cons_eq {cs : List Con} {n m : List Str} : loopS cs () (g_Board_init_b1 n m) = if (cs.all fun c => okCon c n m) = true then .ok () else .ex bad := by
  refine loop_chk fun c _ => ?_
  unfold g_Board_init_b1
  rw [contact_eq, okb, okb]
  cases okCon c n m <;> rfl
end Lw
set_option Elab.async false
set_option linter.all false
set_option maxRecDepth 100000
set_option maxHeartbeats 1000000
namespace Lw
open PySem Gm
open L2 hiding app_ok
def mvs (s : List Str) (r : List (Str × Str × Str)) : List Str := s ++ r.map (·.1)
def okBoard (n : List Str) (l : List (Str × Str × Str)) (s : List Str) (r : List (Str × Str × Str)) (c : List Con) : Bool :=
  okNames n 2 16 && (decide (s.length ≤ 6) && (okNames (mvs s r) 0 14 && (decide (r.length ≤ 8) && (okNames (l.map (·.1)) 1 8 && ((r.all fun x => okEnds x.2.1 x.2.2 n) && ((l.all fun x => okEnds x.2.1 x.2.2 n) && (decide (c.length ≤ 40) && c.all fun x => okCon x n (mvs s r))))))))
theorem mapid {α : Type} {xs : List α} (h : xs.length ≤ 16777216) : compO xs (compF (fun _ => .ok true) (fun x => .ok x)) = .ok xs := by
  rw [Gm.comp_map (g := fun x => x) (by rw [size_eq]; exact h) fun x _ => ⟨rfl, rfl⟩]; simp
theorem init_eq {n : List Str} {l : List (Str × Str × Str)} {s : List Str} {r : List (Str × Str × Str)} {c : List Con} (hn : ∀ x ∈ n, x.length ≤ 16777216) (hm : ∀ x ∈ mvs s r, x.length ≤ 16777216) (hl : ∀ x ∈ l.map (·.1), x.length ≤ 16777216)
    (z1 : s.length + r.length ≤ 1000000) (z2 : l.length ≤ 1000000) (z3 : c.length ≤ 1000000) : g_Board_init n l s r c = if okBoard n l s r c = true then .ok (n, s, r, l, c, ()) else .ex bad := by
  unfold g_Board_init okBoard
  simp only [okb, Mx.assoc]
  rw [are_names_eq hn, okb]
  cases okNames n 2 16 with
  | false => rfl
  | true =>
    simp only [Bool.not_true, Bool.false_eq_true, if_false, okb, Bool.true_and]
    by_cases h2 : s.length ≤ 6
    · rw [decide_eq_false (by omega : ¬ (6 : Int) < (s.length : Int)), decide_eq_true h2]
      simp only [Bool.false_eq_true, if_false, Bool.true_and]
      rw [Gm.comp_map (g := fun x : Str × Str × Str => x.1) (by rw [size_eq]; omega) fun x _ => ⟨rfl, rfl⟩, okb, cat_ok (by rw [List.length_map]; omega), okb]
      change (g_are_names (mvs s r) 0 (6 + 8) >>= _) = _
      rw [are_names_eq hm, okb, show ((6 : Int) + 8) = 14 from rfl]
      cases okNames (mvs s r) 0 14 with
      | false => rfl
      | true =>
        simp only [Bool.not_true, Bool.false_eq_true, if_false, okb, Bool.true_and]
        by_cases h4 : r.length ≤ 8
        · rw [decide_eq_false (by omega : ¬ (8 : Int) < (r.length : Int)), decide_eq_true h4]
          simp only [Bool.false_eq_true, if_false, Bool.true_and]
          rw [Gm.comp_map (g := fun x : Str × Str × Str => x.1) (by rw [size_eq]; omega) fun x _ => ⟨rfl, rfl⟩, okb, are_names_eq hl, okb]
          cases okNames (l.map (·.1)) 1 8 with
          | false => rfl
          | true =>
            simp only [Bool.not_true, Bool.false_eq_true, if_false, okb, Bool.true_and]
            rw [loads_eq, okb]
            cases (r.all fun x => okEnds x.2.1 x.2.2 n) with
            | false => rfl
            | true =>
              simp only [Bool.not_true, Bool.false_eq_true, if_false, okb, Bool.true_and]
              rw [loads_eq, okb]
              cases (l.all fun x => okEnds x.2.1 x.2.2 n) with
              | false => rfl
              | true =>
                simp only [Bool.not_true, Bool.false_eq_true, if_false, okb, Bool.true_and]
                by_cases h8 : c.length ≤ 40
                · rw [decide_eq_false (by omega : ¬ (40 : Int) < (c.length : Int)), decide_eq_true h8]
                  simp only [Bool.false_eq_true, if_false, Bool.true_and]
                  rw [cons_eq, show s ++ List.map (fun x => x.fst) r = mvs s r from rfl]
                  cases (c.all fun x => okCon x n (mvs s r)) with
                  | false => rfl
                  | true =>
                    simp only [if_true, okb]
                    rw [mapid (by omega), okb, mapid (by omega), okb, mapid (by omega), okb]
                · rw [decide_eq_true (by omega : (40 : Int) < (c.length : Int)), decide_eq_false h8]; rfl
        · rw [decide_eq_true (by omega : (8 : Int) < (r.length : Int)), decide_eq_false h4]; rfl
    · rw [decide_eq_true (by omega : (6 : Int) < (s.length : Int)), decide_eq_false h2]; rfl
theorem loads2 : g_are_loads_2 = g_are_loads := rfl
theorem init2 : g_Board_init_2 = g_Board_init := rfl
end Lw
set_option Elab.async false
set_option linter.all false
set_option maxRecDepth 100000
set_option maxHeartbeats 1000000
namespace Lw
open PySem Gm
open L2 hiding app_ok
theorem okNames1 {t : Str} {hi : Int} (lo : Int) (h0 : lo ≤ 1) (h1 : 1 ≤ hi) : okNames [t] lo hi = okName t := by
  unfold okNames noRep
  rw [decide_eq_true (by simpa using h0 : lo ≤ (([t] : List Str).length : Int)), decide_eq_true (by simpa using h1 : (([t] : List Str).length : Int) ≤ hi)]
  simp
theorem okNames2 {a b : Str} (h : ¬ a = b) : okNames [a, b] 2 16 = (okName a && okName b) := by
  unfold okNames noRep
  rw [decide_eq_true (by simp : (2 : Int) ≤ (([a, b] : List Str).length : Int)), decide_eq_true (by simp : (([a, b] : List Str).length : Int) ≤ 16)]
  simp [h]
theorem bad_in : subs [("InvalidBoard", true)] bad.c = some true := by decide +kernel
theorem try_init {β : Type} {x : Mx D_Board} {y : Mx β} {g : D_Board → β} {ok : Bool} {b : D_Board} (h : x = if ok = true then .ok b else .ex bad) : tryM [("InvalidBoard", true)] (x >>= fun d => .ok (g d)) y = if ok = true then .ok (g b) else y := by
  subst h
  cases ok with
  | true => rfl
  | false =>
    rw [if_neg Bool.false_ne_true, if_neg Bool.false_ne_true, exb]
    unfold tryM
    simp only [bad_in]
theorem relay_eq {t o : Str} (ho : o = "q" ∨ o = "w") (ht : t.length ≤ 1000) : l_relay t o = .ok (okName t) := by
  have key : ∀ o : Str, (o = "q" ∨ o = "w") → o.length = 1 ∧ okNames [o, ("e" : Str) ++ o] 2 16 = true ∧ okEnds o (("e" : Str) ++ o) [o, ("e" : Str) ++ o] = true := by
    intro o h
    rcases h with rfl | rfl <;> exact ⟨by decide +kernel, by decide +kernel, by decide +kernel⟩
  obtain ⟨k1, k2, k3⟩ := key o ho
  unfold l_relay
  have e1 : ("e" : Str).length = 1 := by decide +kernel
  rw [catS_ok (by omega)]
  simp only [okb]
  rw [try_init (ok := okName t) (b := ([o, ("e" : Str) ++ o], [], [(t, o, ("e" : Str) ++ o)], [("l", o, ("e" : Str) ++ o)], [], ())) (g := fun d => Fw.go d)]
  · cases hk : okName t with
    | false => rfl
    | true =>
      simp only [if_true, okb]
      show (noEx (g_Board_movers _) >>= _) = _
      unfold g_Board_movers
      rw [Gm.comp_map (g := fun x : Str × Str × Str => x.1) (by simp [size_eq]) fun x _ => ⟨rfl, rfl⟩, okb, cat_ok (by simp)]
      show Mx.ok (decide _) = _
      simp
  · rw [init_eq]
    · have : okBoard [o, ("e" : Str) ++ o] [("l", o, ("e" : Str) ++ o)] [] [(t, o, ("e" : Str) ++ o)] [] = okName t := by
        unfold okBoard mvs
        rw [k2]
        simp only [List.map_cons, List.map_nil, List.nil_append, okNames1 0 (by decide) (by decide : (1 : Int) ≤ 14), okNames1 1 (by decide) (by decide : (1 : Int) ≤ 8), List.all_cons, List.all_nil, k3]
        have : okName "l" = true := by decide +kernel
        rw [this]
        cases okName t <;> rfl
      rw [this]
    · intro x hx
      have e : (("e" : Str) ++ o).length = 2 := by rw [len_app]; omega
      rcases List.mem_cons.mp hx with rfl | hx
      · omega
      · rw [List.mem_singleton.mp hx]; omega
    · intro x hx
      have hx : x ∈ [t] := hx
      rw [List.mem_singleton.mp hx]; omega
    · intro x hx
      have hx : x ∈ [("l" : Str)] := hx
      rw [List.mem_singleton.mp hx]; decide +kernel
    · simp
    · simp
    · simp
end Lw
set_option Elab.async false
set_option linter.all false
set_option maxRecDepth 100000
set_option maxHeartbeats 1000000
namespace Lw
open PySem Gm
open L2 hiding app_ok
theorem taken_eq {a b lamp : Str} {sw : List Str} (ha : a.length ≤ 1000) (hb : b.length ≤ 1000) (hl : lamp.length ≤ 1000) (hs : ∀ x ∈ sw, x.length ≤ 1000) (hz : sw.length ≤ 1000) : l_taken [a, b] sw lamp = .ok (okBoard [a, b] [(lamp, a, b)] sw [] []) := by
  unfold l_taken
  rw [init2, show ofO (atI [a, b] (0 : Int)) = .ok a from rfl, show ofO (atI [a, b] (1 : Int)) = .ok b from rfl]
  simp only [okb]
  rw [try_init (ok := okBoard [a, b] [(lamp, a, b)] sw [] []) (b := ([a, b], sw, [], [(lamp, a, b)], [], ())) (g := fun d => Fw.go d)]
  · cases okBoard [a, b] [(lamp, a, b)] sw [] [] with
    | false => rfl
    | true =>
      rw [if_pos rfl, okb]
      show (if (decide ([a, b] = [a, b])) = true then Mx.ok (decide (sw = sw)) else Mx.ok false) = _
      simp
  · refine init_eq (fun x hx => ?_) (fun x hx => ?_) (fun x hx => ?_) (by simp; omega) (by simp) (by simp)
    · rcases List.mem_cons.mp hx with rfl | hx
      · omega
      · rw [List.mem_singleton.mp hx]; omega
    · unfold mvs at hx
      rw [List.map_nil, List.append_nil] at hx
      have := hs x hx; omega
    · have hx : x ∈ [lamp] := hx
      rw [List.mem_singleton.mp hx]; omega
end Lw
set_option Elab.async false
set_option linter.all false
set_option maxRecDepth 100000
set_option maxHeartbeats 1000000
namespace Lw
open PySem Gm
open L2 hiding app_ok
/-- the due answer, as the law reckons it -/
theorem due_eq {t : Str} : ∀ (b : Bool), loopS (signs t) b (l_law_b2 al) = .ok (b && t.cps.toList.all fun c => decide (c ∈ al.cps.toList)) := by
  unfold signs
  generalize t.cps.toList = cs
  induction cs with
  | nil => intro b; simp [loopS]
  | cons c cs ih =>
    intro b
    rw [List.map_cons]
    unfold loopS
    have e : l_law_b2 al b ⟨#[c]⟩ = .ok (b && decide (c ∈ al.cps.toList)) := by
      unfold l_law_b2
      rw [inSO_one]
      show (Mx.ok (!decide (c ∈ al.cps.toList)) >>= _) = _
      rw [okb]
      cases decide (c ∈ al.cps.toList) <;> cases b <;> rfl
    rw [e, okb, ih, List.all_cons, Bool.and_assoc]
theorem o_facts {o : Str} (h : o = "q" ∨ o = "w") : o.length = 1 ∧ okName o = true ∧ okNames [o, ("e" : Str) ++ o] 2 16 = true ∧ okEnds o (("e" : Str) ++ o) [o, ("e" : Str) ++ o] = true := by
  rcases h with rfl | rfl <;> exact ⟨by decide +kernel, by decide +kernel, by decide +kernel, by decide +kernel⟩
theorem l_ok : okNames [("l" : Str)] 1 8 = true := by decide +kernel
theorem e_ok : okNames ([] : List Str) 0 14 = true := by decide +kernel
theorem tb1 {t o : Str} (ho : o = "q" ∨ o = "w") (hne : ¬ t = o) : okBoard [t, o] [("l", t, o)] [] [] [] = okName t := by
  unfold okBoard mvs
  rw [okNames2 hne, (o_facts ho).2.1]
  simp only [List.map_nil, List.append_nil, List.map_cons, e_ok, l_ok, List.all_cons, List.all_nil]
  have : okEnds t o [t, o] = true := by unfold okEnds; simp [hne]
  rw [this]
  cases okName t <;> rfl
theorem tb2 {t o : Str} (ho : o = "q" ∨ o = "w") (hne : ¬ t = o) : okBoard [o, t] [("l", o, t)] [] [] [] = okName t := by
  have hne' : ¬ o = t := fun z => hne z.symm
  unfold okBoard mvs
  rw [okNames2 hne', (o_facts ho).2.1]
  simp only [List.map_nil, List.append_nil, List.map_cons, e_ok, l_ok, List.all_cons, List.all_nil]
  have : okEnds o t [o, t] = true := by unfold okEnds; simp [hne']
  rw [this]
  cases okName t <;> rfl
theorem tb3 {t o : Str} (ho : o = "q" ∨ o = "w") : okBoard [o, ("e" : Str) ++ o] [("l", o, ("e" : Str) ++ o)] [t] [] [] = okName t := by
  unfold okBoard mvs
  rw [(o_facts ho).2.2.1]
  simp only [List.map_nil, List.append_nil, List.map_cons, okNames1 0 (by decide) (by decide : (1 : Int) ≤ 14), l_ok, List.all_cons, List.all_nil, (o_facts ho).2.2.2]
  cases okName t <;> rfl
theorem tb4 {t o : Str} (ho : o = "q" ∨ o = "w") : okBoard [o, ("e" : Str) ++ o] [(t, o, ("e" : Str) ++ o)] [] [] [] = okName t := by
  unfold okBoard mvs
  rw [(o_facts ho).2.2.1]
  simp only [List.map_nil, List.append_nil, List.map_cons, e_ok, okNames1 1 (by decide) (by decide : (1 : Int) ≤ 8), List.all_cons, List.all_nil, (o_facts ho).2.2.2]
  cases okName t <;> rfl
theorem law_true (ns : List Int) (h : ns.length ≤ 63) : l_law ns = .ok true := by
  refine Sat.eq ?_
  unfold l_law
  simp only [okb, Mx.assoc]
  refine (sat_numbers (by decide) (by decide)).bind fun nu hn => ?_
  have hnl : (nu.length : Int) = 20 := by rw [hn.1]; rfl
  rw [catS_ok (by decide +kernel), okb]
  refine (sat_at (by decide) (by rw [hnl]; decide) hn.2).bind fun v hv => ?_
  rw [mod_ok (by decide), okb, ran_ok (by omega), okb]
  refine Sat.bind (sat_loop (fun i (s : Str) => s.length = i) (by decide +kernel) fun i s k hk hs => ?_) fun s hs => ?_
  · obtain ⟨ek, hk0, hk1⟩ := iran_get hk
    unfold l_law_b1
    simp only [okb, Mx.assoc]
    refine (sat_at (by omega) (by omega) hn.2).bind fun v1 hv1 => ?_
    rw [mod_ok (by decide), okb]
    have e36 : al.length = 36 := by decide +kernel
    refine (sat_atS (Int.emod_nonneg _ (by decide)) (by rw [e36]; exact Int.emod_lt_of_pos _ (by decide)) (by rw [e36]; decide)).bind fun y hy => ?_
    obtain ⟨c, _, rfl⟩ := hy
    have e1 : (⟨#[c]⟩ : Str).length = 1 := rfl
    rw [catS_ok (by omega), okb]
    exact Sat.ok (by rw [len_app]; omega)
  · have hsl : s.length ≤ 14 := by rw [iran_len] at hs; omega
    refine (sat_at (by decide) (by rw [hnl]; decide) hn.2).bind fun w hw => ?_
    rw [mod_ok (by decide), okb]
    refine Sat.bind (P := fun b : Bool => b = true → 0 < s.length) (Sat.ite (fun _ => ?_) fun _ => Sat.ok (by simp)) fun b hb => ?_
    · rw [lenS_ok (by omega), okb]
      exact Sat.ok (by simp)
    refine Sat.bind (P := fun t : Str => t.length ≤ 100) (Sat.ite (fun hb2 => ?_) fun _ => Sat.ok (by omega)) fun t ht => ?_
    · have hpos := hb hb2
      refine (sat_at (by decide) (by rw [hnl]; decide) hn.2).bind fun v1 hv1 => ?_
      rw [lenS_ok (by omega), okb, mod_ok (by omega), okb, slS_ok (by omega), okb]
      refine (sat_at (by decide) (by rw [hnl]; decide) hn.2).bind fun v2 hv2 => ?_
      generalize hac : ((" !\"#$&'()*+,-./0123456789:;<=>?@ABCDEFGHIJKLMNOPQRSTUVWXYZ[\\]^_`" : Str) ++ ("abcdefghijklmnopqrstuvwxyz{|}~\n\t" : Str)) = ac
      have hal : 0 < ac.length ∧ ac.length ≤ 200 := by rw [← hac]; decide +kernel
      rw [lenS_ok (by omega), okb, mod_ok (by omega), okb]
      refine (sat_atS (Int.emod_nonneg _ (by omega)) (Int.emod_lt_of_pos _ (by omega)) (by omega)).bind fun y hy => ?_
      obtain ⟨c, _, rfl⟩ := hy
      have e1 : (⟨#[c]⟩ : Str).length = 1 := rfl
      have l1 := cutS_len s none (some (v1 % (s.length : Int)))
      have l2 := cutS_len s (some (v1 % (s.length : Int) + 1)) none
      rw [catS_ok (by omega), okb, slS_ok (by omega), okb, catS_ok (by rw [len_app]; omega), okb]
      exact Sat.ok (by rw [len_app, len_app]; omega)
    · rw [lenS_ok (by omega), okb]
      refine Sat.bind (P := fun b : Bool => b = (decide (1 ≤ t.length) && decide (t.length ≤ 12))) (Sat.ite (fun h1 => Sat.ok ?_) fun h1 => Sat.ok ?_) fun b hb2 => ?_
      · rw [decide_eq_true (by have := of_decide_eq_true h1; omega : 1 ≤ t.length), Bool.true_and]
        exact decide_eq_decide.mpr (by omega)
      · rw [decide_eq_false (by intro z; exact h1 (decide_eq_true (by omega)) : ¬ 1 ≤ t.length)]; rfl
      subst hb2
      rw [due_eq, okb, is_name_eq (by omega), okb]
      change Sat _ _
      rw [show ((decide (1 ≤ t.length) && decide (t.length ≤ 12)) && t.cps.toList.all fun c => decide (c ∈ al.cps.toList)) = okName t from rfl]
      simp only [Bool.not_true, Bool.false_eq_true, if_false, okb, decide_true]
      refine Sat.bind (P := fun o : Str => (o = "q" ∨ o = "w") ∧ ¬ t = o) (Sat.ite (fun h1 => Sat.ok ⟨.inr rfl, ?_⟩) fun h1 => Sat.ok ⟨.inl rfl, ?_⟩) fun o ho => ?_
      · rw [of_decide_eq_true h1]; decide +kernel
      · exact fun z => h1 (decide_eq_true z)
      have ol := (o_facts ho.1).1
      have e1 : ("e" : Str).length = 1 := by decide +kernel
      have l1 : ("l" : Str).length = 1 := by decide +kernel
      have oel : (("e" : Str) ++ o).length = 2 := by rw [len_app]; omega
      rw [relay_eq ho.1 (by omega), okb]
      simp only [decide_true, Bool.not_true, Bool.false_eq_true, if_false]
      rw [taken_eq (by omega) (by omega) (by omega) (by simp) (by simp), tb1 ho.1 ho.2, okb]
      simp only [decide_true, Bool.not_true, Bool.false_eq_true, if_false]
      rw [taken_eq (by omega) (by omega) (by omega) (by simp) (by simp), tb2 ho.1 ho.2, okb]
      simp only [decide_true, Bool.not_true, Bool.false_eq_true, if_false]
      rw [catS_ok (by omega)]
      simp only [okb]
      rw [taken_eq (by omega) (by omega) (by omega) (by intro x hx; rw [List.mem_singleton.mp hx]; omega) (by simp), tb3 ho.1, okb]
      simp only [decide_true, if_true]
      rw [taken_eq (by omega) (by omega) (by omega) (by simp) (by simp), tb4 ho.1, okb]
      exact Sat.ok (by simp)
end Lw
set_option Elab.async false
set_option linter.all false
set_option maxRecDepth 100000
set_option maxHeartbeats 4000000
namespace Lw
open PySem PySem.Spec L2 Gm
def d_l_row : Df := ⟨fun K => (He.ga K "_law_row"), "_law_row", "_law_row", defArgs s_l_row, defBody s_l_row, defScope s_l_row, fun _ => [], fun K => []⟩
def d_l_numbers : Df := ⟨fun K => (He.ga K "_law_numbers"), "_law_numbers", "_law_numbers", defArgs s_l_numbers, defBody s_l_numbers, defScope s_l_numbers, fun _ => [], fun K => []⟩
def d_g_Board_is_name : Df := ⟨fun K => (statAt K "Board" "is_name"), "is_name", "Board.is_name", defArgs s_g_Board_is_name, defBody s_g_Board_is_name, defScope s_g_Board_is_name, fun _ => [], fun K => []⟩
def d_g_are_names : Df := ⟨fun K => (He.ga K "are_names"), "are_names", "are_names", defArgs s_g_are_names, defBody s_g_are_names, defScope s_g_are_names, fun _ => [], fun K => []⟩
def d_g_is_between : Df := ⟨fun K => (He.ga K "is_between"), "is_between", "is_between", defArgs s_g_is_between, defBody s_g_is_between, defScope s_g_is_between, fun _ => [], fun K => []⟩
def d_g_are_loads : Df := ⟨fun K => (He.ga K "are_loads"), "are_loads", "are_loads", defArgs s_g_are_loads, defBody s_g_are_loads, defScope s_g_are_loads, fun _ => [], fun K => []⟩
def d_g_is_contact : Df := ⟨fun K => (He.ga K "is_contact"), "is_contact", "is_contact", defArgs s_g_is_contact, defBody s_g_is_contact, defScope s_g_is_contact, fun _ => [], fun K => []⟩
def d_g_Board_init : Df := ⟨fun K => (methAt K "Board" "__init__"), "__init__", "Board.__init__", defArgs s_g_Board_init, defBody s_g_Board_init, defScope s_g_Board_init, fun _ => [], fun K => [("switches", .ref (kwAt K (methAt K "Board" "__init__") "switches")), ("relays", .ref (kwAt K (methAt K "Board" "__init__") "relays")), ("contacts", .ref (kwAt K (methAt K "Board" "__init__") "contacts"))]⟩
def d_g_Board_movers : Df := ⟨fun K => (propAt K "Board" "movers"), "movers", "Board.movers", defArgs s_g_Board_movers, defBody s_g_Board_movers, defScope s_g_Board_movers, fun _ => [], fun K => []⟩
def d_l_relay : Df := ⟨fun K => (He.ga K "_law_relay"), "_law_relay", "_law_relay", defArgs s_l_relay, defBody s_l_relay, defScope s_l_relay, fun _ => [], fun K => []⟩
def d_l_taken : Df := ⟨fun K => (He.ga K "_law_taken"), "_law_taken", "_law_taken", defArgs s_l_taken, defBody s_l_taken, defScope s_l_taken, fun _ => [], fun K => []⟩
def d_l_law : Df := ⟨fun K => (He.ga K "law"), "law", "law", defArgs s_l_law, defBody s_l_law, defScope s_l_law, fun _ => [], fun K => []⟩
def fn : List Df := [d_l_row, d_l_numbers, d_g_Board_is_name, d_g_are_names, d_g_is_between, d_g_are_loads, d_g_is_contact, d_g_Board_init, d_g_Board_movers, d_l_relay, d_l_taken, d_l_law]
def fa0 : List Fact := [fun K => He.Fa.ok K (.free "abs"),
  fun K => He.Fa.ok K (.free "all"),
  fun K => He.Fa.ok K (.free "bool"),
  fun K => He.Fa.ok K (.free "enumerate"),
  fun K => He.Fa.ok K (.free "int"),
  fun K => He.Fa.ok K (.free "isinstance"),
  fun K => He.Fa.ok K (.free "len"),
  fun K => He.Fa.ok K (.free "list"),
  fun K => He.Fa.ok K (.free "max"),
  fun K => He.Fa.ok K (.free "range"),
  fun K => He.Fa.ok K (.free "tuple"),
  fun K => He.Fa.ok K (.glo "_law_row"),
  fun K => He.Fa.ok K (.glo "_law_numbers"),
  fun K => He.Fa.ok K (.int "MOST_NAME_CHARS" (12)),
  fun K => He.Fa.ok K (.str "NAME_CHARS" ("abcdefghijklmnopqrstuvwxyz0123456789" : Str)),
  fun K => He.Fa.ok K (.glo "Board"),
  fRead "Board",
  fStat "Board" "is_name",
  fun K => He.Fa.ok K (.glo "InvalidBoard"),
  fun K => He.Fa.ok K (.exm "InvalidBoard" "InvalidBoard" true),
  fun K => He.Fa.ok K (.cls "Board"),
  fInt "Board" "MOST_NODES" 16,
  fun K => He.Fa.ok K (.glo "are_names"),
  fInt "Board" "MOST_SWITCHES" 6,
  fun K => He.Fa.ok K (.exc "InvalidBoard"),
  fInt "Board" "MOST_RELAYS" 8,
  fInt "Board" "MOST_LAMPS" 8,
  fun K => He.Fa.ok K (.glo "is_between"),
  fun K => He.Fa.ok K (.glo "are_loads"),
  fInt "Board" "MOST_CONTACTS" 40]
def fa1 : List Fact := [fun K => He.tupB K "WHENS" [.str ("make" : Str), .str ("break" : Str)],
  fun K => He.Fa.ok K (.glo "WHENS"),
  fun K => He.tupB K "WAYS" [.str ("both" : Str), .str ("forward" : Str)],
  fun K => He.Fa.ok K (.glo "WAYS"),
  fun K => He.Fa.ok K (.glo "is_contact"),
  fun K => He.Fa.ok K (.noat "Board" "contacts"),
  fun K => He.Fa.ok K (.noat "Board" "lamps"),
  fun K => He.Fa.ok K (.noat "Board" "relays"),
  fun K => He.Fa.ok K (.noat "Board" "switches"),
  fun K => He.Fa.ok K (.noat "Board" "nodes"),
  fun K => He.Fa.ok K (.mkr "Board"),
  fTup0 fun K => kwAt K (methAt K "Board" "__init__") "switches",
  fTup0 fun K => kwAt K (methAt K "Board" "__init__") "contacts",
  fProp "Board" "movers",
  fun K => He.Fa.ok K (.glo "_law_relay"),
  fTup0 fun K => kwAt K (methAt K "Board" "__init__") "relays",
  fun K => He.Fa.ok K (.glo "_law_taken"),
  fun K => He.Fa.ok K (.glo "law")]
def fa : List Fact := fa0 ++ fa1
abbrev R : PySem.W.OpenRow := PySem.W.OpenLaw.row PySem.Challenge.rw_leverhouse_k09_names
abbrev hk : PySem.W.Hook := hookF 6 fa fn
def ob (s : PySem.W.SharedT) : Ob := obFG 6 fa fn (HandSHeadRun.getT s)
theorem ob_eq (s : PySem.W.SharedT) : ob s = hk.obs s.abs := obFG_eq (HandSHeadRun.getT_eq s)
def loose : List Str := ["_wall", "LeverhouseError", "InvalidBoard", "NAME_CHARS", "MOST_NAME_CHARS", "WHENS", "WAYS", "are_names", "is_between", "are_loads", "is_contact", "Board", "_law_row", "_law_numbers", "_law_taken", "_law_relay"]
theorem run (w : World) : HandSHeadRun.RunEq R (PySem.W.view R.prog [19]) hk ob 4000 loose w := by
  intro os
  kernel_rfl
theorem facts (hlaw : ∀ ns : List Int, ns.length ≤ 63 → l_law ns = .ok true) {P : Program} {w : World} {K : PySem.W.Frag} {h : Heap} {mg : Str → Option Value} {f : Addr} (X : K.In h) (G : h.Ns mainGlobals mg) (hfa : mg ("law" : Str) = some (.ref f)) (c : Told fa fn K) :
    ∃ fd : FuncData, (∀ (s : Shared) (v : Value), BindsTo s fd ⟨[v], []⟩ [("_law_script", v)]) ∧ ∀ base : Heap, K.In base → base.Ns mainGlobals mg → FnOk P w K mg base (L2.CX P w) 6 f fd ["_law_script"] (spL K 63) := by
  obtain ⟨f0, F0⟩ := c.def_ 0 (d := d_l_row) rfl
  have b0 : Binds K f0 ["_law_cell", "_law_many"] [] := FunD.bindsN (ps := ["_law_cell", "_law_many"]) F0 fun _ _ _ _ _ _ us hl => match us, hl with | [_, _], _ => rfl
  obtain ⟨f1, F1⟩ := c.def_ 1 (d := d_l_numbers) rfl
  have b1 : Binds K f1 ["_law_script", "_law_many"] [] := FunD.bindsN (ps := ["_law_script", "_law_many"]) F1 fun _ _ _ _ _ _ us hl => match us, hl with | [_, _], _ => rfl
  obtain ⟨f2, F2⟩ := c.def_ 2 (d := d_g_Board_is_name) rfl
  have b2 : Binds K f2 ["text"] [] := FunD.bindsN (ps := ["text"]) F2 fun _ _ _ _ _ _ us hl => match us, hl with | [_], _ => rfl
  obtain ⟨f3, F3⟩ := c.def_ 3 (d := d_g_are_names) rfl
  have b3 : Binds K f3 ["names", "least", "most"] [] := FunD.bindsN (ps := ["names", "least", "most"]) F3 fun _ _ _ _ _ _ us hl => match us, hl with | [_, _, _], _ => rfl
  obtain ⟨f4, F4⟩ := c.def_ 4 (d := d_g_is_between) rfl
  have b4 : Binds K f4 ["one", "other", "nodes"] [] := FunD.bindsN (ps := ["one", "other", "nodes"]) F4 fun _ _ _ _ _ _ us hl => match us, hl with | [_, _, _], _ => rfl
  obtain ⟨f5, F5⟩ := c.def_ 5 (d := d_g_are_loads) rfl
  have b5 : Binds K f5 ["loads", "nodes"] [] := FunD.bindsN (ps := ["loads", "nodes"]) F5 fun _ _ _ _ _ _ us hl => match us, hl with | [_, _], _ => rfl
  obtain ⟨f6, F6⟩ := c.def_ 6 (d := d_g_is_contact) rfl
  have b6 : Binds K f6 ["contact", "nodes", "movers"] [] := FunD.bindsN (ps := ["contact", "nodes", "movers"]) F6 fun _ _ _ _ _ _ us hl => match us, hl with | [_, _, _], _ => rfl
  obtain ⟨f7, F7⟩ := c.def_ 7 (d := d_g_Board_init) rfl
  obtain ⟨f8, F8⟩ := c.def_ 8 (d := d_g_Board_movers) rfl
  have b8 : Binds K f8 ["self"] [] := FunD.bindsN (ps := ["self"]) F8 fun _ _ _ _ _ _ us hl => match us, hl with | [_], _ => rfl
  obtain ⟨f9, F9⟩ := c.def_ 9 (d := d_l_relay) rfl
  have b9 : Binds K f9 ["_law_text", "_law_other"] [] := FunD.bindsN (ps := ["_law_text", "_law_other"]) F9 fun _ _ _ _ _ _ us hl => match us, hl with | [_, _], _ => rfl
  obtain ⟨f10, F10⟩ := c.def_ 10 (d := d_l_taken) rfl
  have b10 : Binds K f10 ["_law_nodes", "_law_switches", "_law_lamp"] [] := FunD.bindsN (ps := ["_law_nodes", "_law_switches", "_law_lamp"]) F10 fun _ _ _ _ _ _ us hl => match us, hl with | [_, _, _], _ => rfl
  obtain ⟨f11, F11⟩ := c.def_ 11 (d := d_l_law) rfl
  have b11 : Binds K f11 ["_law_script"] [] := FunD.bindsN (ps := ["_law_script"]) F11 fun _ _ _ _ _ _ us hl => match us, hl with | [_], _ => rfl
  have e := hfa.symm.trans (He.glo_ok X G (x := "law") (c.fact 47 rfl))
  cases e
  have bl := FunD.bindsA (ps := ["_law_script"]) F11 fun _ _ _ _ _ _ us hl => match us, hl with | [_], _ => rfl
  have T : Tx K mg ⟨f0, f1, f2, f3, f4, f5, f6, f7, f8, f9, f10, f11⟩ := ⟨F0,
    b0,
    F1,
    b1,
    F2,
    b2,
    F3,
    b3,
    F4,
    b4,
    F5,
    b5,
    F6,
    b6,
    F7,
    F8,
    b8,
    F9,
    b9,
    F10,
    b10,
    F11,
    b11,
    He.free_ok X G (c.fact 0 rfl),
    He.free_ok X G (c.fact 1 rfl),
    He.free_ok X G (c.fact 2 rfl),
    He.free_ok X G (c.fact 3 rfl),
    He.free_ok X G (c.fact 4 rfl),
    He.free_ok X G (c.fact 5 rfl),
    He.free_ok X G (c.fact 6 rfl),
    He.free_ok X G (c.fact 7 rfl),
    He.free_ok X G (c.fact 8 rfl),
    He.free_ok X G (c.fact 9 rfl),
    He.free_ok X G (c.fact 10 rfl),
    He.glo_ok X G (c.fact 11 rfl),
    He.glo_ok X G (c.fact 12 rfl),
    He.int_ok X G (c.fact 13 rfl),
    He.str_ok X G (c.fact 14 rfl),
    He.glo_ok X G (c.fact 15 rfl),
    fRead_ok (c.fact 16 rfl),
    fStat_ok (c.fact 17 rfl),
    He.glo_ok X G (c.fact 18 rfl),
    He.exm_ok (c.fact 19 rfl),
    He.cls_ok (c.fact 20 rfl),
    fInt_ok (c.fact 21 rfl),
    He.glo_ok X G (c.fact 22 rfl),
    fInt_ok (c.fact 23 rfl),
    He.exc_ok (c.fact 24 rfl),
    fInt_ok (c.fact 25 rfl),
    fInt_ok (c.fact 26 rfl),
    He.glo_ok X G (c.fact 27 rfl),
    He.glo_ok X G (c.fact 28 rfl),
    fInt_ok (c.fact 29 rfl),
    He.tupB_ok (c.fact 30 rfl),
    He.glo_ok X G (c.fact 31 rfl),
    He.tupB_ok (c.fact 32 rfl),
    He.glo_ok X G (c.fact 33 rfl),
    He.glo_ok X G (c.fact 34 rfl),
    He.noat_ok (c.fact 35 rfl),
    He.noat_ok (c.fact 36 rfl),
    He.noat_ok (c.fact 37 rfl),
    He.noat_ok (c.fact 38 rfl),
    He.noat_ok (c.fact 39 rfl),
    He.mkr_ok (c.fact 40 rfl),
    fTup0_ok (c.fact 41 rfl),
    fTup0_ok (c.fact 42 rfl),
    fProp_ok (c.fact 43 rfl),
    He.glo_ok X G (c.fact 44 rfl),
    fTup0_ok (c.fact 45 rfl),
    He.glo_ok X G (c.fact 46 rfl),
    He.glo_ok X G (c.fact 47 rfl)⟩
  exact ⟨f11, fun s v => bl s [v] rfl, fun base _ _ => (ok_l_law T).imp fun vs H Q E q => spL_imp hlaw vs H Q E q⟩
end Lw
open PySem PySem.W PySem.Calls PyProof.Rows
theorem PySem.Challenge.cw_leverhouse_k09_names_holds : PySem.Challenge.rw_leverhouse_k09_names.Holds := by
  w_on; o_law
  refine HandSHeadRun.head_any (r := OpenLaw.row PySem.Challenge.rw_leverhouse_k09_names) (q := view (OpenLaw.row PySem.Challenge.rw_leverhouse_k09_names).prog [19]) (H := Lw.hk) (ob := Lw.ob) (M := 4000) (loose := Lw.loose) (d := HandSHeadRun.topDef (OpenLaw.row PySem.Challenge.rw_leverhouse_k09_names).prog 19) (kwd := []) Lw.ob_eq
    (by kernel_rfl) (fun s => by kernel_rfl) Lw.run (by kernel_rfl) (by kernel_rfl) (by kernel_rfl) (by rfl) (by first | assumption | decide +kernel) (by decide +kernel) ⟨rfl, rfl, rfl, rfl, rfl, by decide +kernel⟩ ?hw ?hc
  case hw => w_witness2
  case hc =>
    refine Gm.walk_w (l := PySem.Challenge.rw_leverhouse_k09_names) (n := 63) (k := 6) (x := "_law_script") (CX := fun w => L2.CX (PySem.Challenge.rw_leverhouse_k09_names).prog w) rfl (by decide) (by kernel_rfl) ⟨rfl, by decide, by decide⟩ ?F (fun w H s e s' h => Gm.cx_end H s e s' h)
    intro w mg fa h Y G hmg0
    obtain ⟨K, KX, c⟩ := Y
    have hmg : mg ("law" : PySem.Str) = some (.ref fa) := by
      have e : (HandSHeadRun.topDef (OpenLaw.row PySem.Challenge.rw_leverhouse_k09_names).prog 19).name = ("law" : PySem.Str) := by kernel_rfl
      rw [← e]
      exact hmg0
    obtain ⟨fd, hb, hF⟩ := Lw.facts Lw.law_true (P := (PySem.Challenge.rw_leverhouse_k09_names).prog) (w := w) KX G hmg c
    exact ⟨K, fd, Gm.spL K 63, KX, hb, fun H a ns hl _ hS => ⟨a, ns, rfl, hS, hl, fun _ => rfl⟩, hF⟩
