import PyProof.Rows.All
import Wide.All
import OpenK.AllK
import Wide.FinOn
import HandS.ForMost
import HandS.ForExc
import PyProof.EqAt
import PyProof.EqKinds
import PyProof.NeKinds
import HandS.IsInst
import HandS.CallSlots
import HandS.Defaults
import HandS.Head0
import HandS.Head1
import HandS.Head2
import HandS.HeadEnd
import HandS.HeadHook1
import HandS.HeadHook2
import PySem.Challenge.RW_leverhouse_k22_switching_of_a_play
set_option Elab.async false
set_option linter.all false
set_option maxRecDepth 100000
set_option maxHeartbeats 4000000
namespace Gm
open PySem L2

/-! ## mirror values -/
inductive Pay where
  | n | i (z : Int) | s (z : Str)
structure Exn where
  c : Str
  f : Str
  p : Pay
inductive Mx (α : Type) where
  | ok (a : α) | ex (e : Exn) | no
def Mx.bind {α β : Type} : Mx α → (α → Mx β) → Mx β
  | .ok a, f => f a
  | .ex e, _ => .ex e
  | .no, _ => .no
instance : Monad Mx where
  pure := Mx.ok
  bind := Mx.bind
theorem ok_bind {α β : Type} (a : α) (f : α → Mx β) : (Mx.ok a >>= f) = f a := rfl

/-! ## codes of data -/
inductive Ty where
  | int | bool | str | non | scr
  | opt (t : Ty) | tup (fs : Ty) | vtup (t : Ty) | hl (fs : Ty) | list (t : Ty)
  | pr (a b : Ty) | nl | sum (a b : Ty) | ins (c : Str) (ns : List Str) (fs : Ty)
@[reducible] def Ty.den : Ty → Type
  | .int => Int
  | .bool => Bool
  | .str => Str
  | .non => Unit
  | .scr => List Int
  | .opt t => Option t.den
  | .tup fs => fs.den
  | .vtup t => List t.den
  | .hl fs => fs.den
  | .list t => List t.den
  | .pr a b => a.den × b.den
  | .nl => Unit
  | .sum a b => Sum a.den b.den
  | .ins _ _ fs => fs.den
def Ty.flat : Ty → Bool
  | .int => true
  | .bool => true
  | .str => true
  | .non => true
  | .scr => false
  | .opt t => t.flat
  | .tup fs => fs.flat
  | .vtup t => t.flat
  | .hl _ => false
  | .list _ => false
  | .pr a b => a.flat && b.flat
  | .nl => true
  | .sum a b => a.flat && b.flat
  | .ins _ _ _ => false

def all2 {α : Type} (R : α → V → Prop) : List α → List V → Prop
  | [], [] => True
  | x :: xs, v :: vs => R x v ∧ all2 R xs vs
  | _, _ => False
theorem all2.imp {α : Type} {R S : α → V → Prop} (h : ∀ x v, R x v → S x v) : ∀ {xs : List α} {vs : List V}, all2 R xs vs → all2 S xs vs
  | [], [], _ => True.intro
  | _ :: _, _ :: _, ⟨a, b⟩ => ⟨h _ _ a, all2.imp h b⟩
  | [], _ :: _, z => z.elim
  | _ :: _, [], z => z.elim
theorem all2.len {α : Type} {R : α → V → Prop} : ∀ {xs : List α} {vs : List V}, all2 R xs vs → xs.length = vs.length
  | [], [], _ => rfl
  | _ :: _, _ :: _, ⟨_, b⟩ => congrArg (· + 1) (all2.len b)
  | [], _ :: _, z => z.elim
  | _ :: _, [], z => z.elim
theorem all2.get {α : Type} {R : α → V → Prop} : ∀ {xs : List α} {vs : List V} {i : Nat} {x : α}, all2 R xs vs → xs[i]? = some x → ∃ v, vs[i]? = some v ∧ R x v
  | [], [], _, _, _, e => by simp at e
  | a :: _, v :: _, 0, x, ⟨h, _⟩, e => by
    simp at e; subst e; exact ⟨v, rfl, h⟩
  | _ :: xs, _ :: vs, i + 1, x, ⟨_, h⟩, e => by
    obtain ⟨v, h1, h2⟩ := all2.get (i := i) h (by simpa using e)
    exact ⟨v, by simpa using h1, h2⟩
  | [], _ :: _, _, _, z, _ => z.elim
  | _ :: _, [], _, _, z, _ => z.elim
theorem all2.getV {α : Type} {R : α → V → Prop} : ∀ {xs : List α} {vs : List V} {i : Nat} {v : V}, all2 R xs vs → vs[i]? = some v → ∃ x, xs[i]? = some x ∧ R x v
  | [], [], _, _, _, e => by simp at e
  | a :: _, v :: _, 0, x, ⟨h, _⟩, e => by
    simp at e; subst e; exact ⟨a, rfl, h⟩
  | _ :: xs, _ :: vs, i + 1, x, ⟨_, h⟩, e => by
    obtain ⟨v, h1, h2⟩ := all2.getV (i := i) h (by simpa using e)
    exact ⟨v, by simpa using h1, h2⟩
  | [], _ :: _, _, _, z, _ => z.elim
  | _ :: _, [], _, _, z, _ => z.elim
theorem all2.app {α : Type} {R : α → V → Prop} : ∀ {xs ys : List α} {vs ws : List V}, all2 R xs vs → all2 R ys ws → all2 R (xs ++ ys) (vs ++ ws)
  | [], _, [], _, _, h => h
  | _ :: _, _, _ :: _, _, ⟨a, b⟩, h => ⟨a, all2.app b h⟩
  | [], _, _ :: _, _, z, _ => z.elim
  | _ :: _, _, [], _, z, _ => z.elim
theorem all2.take {α : Type} {R : α → V → Prop} : ∀ {xs : List α} {vs : List V} (n : Nat), all2 R xs vs → all2 R (xs.take n) (vs.take n)
  | [], [], n, _ => by simp [all2]
  | _ :: _, _ :: _, 0, _ => by simp [all2]
  | _ :: _, _ :: _, n + 1, ⟨a, b⟩ => ⟨a, all2.take n b⟩
  | [], _ :: _, _, z => z.elim
  | _ :: _, [], _, z => z.elim
theorem all2.drop {α : Type} {R : α → V → Prop} : ∀ {xs : List α} {vs : List V} (n : Nat), all2 R xs vs → all2 R (xs.drop n) (vs.drop n)
  | [], [], n, _ => by simp [all2]
  | _ :: _, _ :: _, 0, h => h
  | _ :: _, _ :: _, n + 1, ⟨_, b⟩ => by simpa using all2.drop n b
  | [], _ :: _, _, z => z.elim
  | _ :: _, [], _, z => z.elim
theorem all2.set {α : Type} {R : α → V → Prop} {x : α} {v : V} (hx : R x v) : ∀ {xs : List α} {vs : List V} (n : Nat), all2 R xs vs → all2 R (xs.set n x) (vs.set n v)
  | [], [], n, _ => by simp [all2]
  | _ :: _, _ :: _, 0, ⟨_, b⟩ => ⟨hx, b⟩
  | _ :: _, _ :: _, n + 1, ⟨a, b⟩ => ⟨a, all2.set hx n b⟩
  | [], _ :: _, _, z => z.elim
  | _ :: _, [], _, z => z.elim
theorem all2.rev {α : Type} {R : α → V → Prop} : ∀ {xs : List α} {vs : List V}, all2 R xs vs → all2 R xs.reverse vs.reverse
  | [], [], _ => by simp [all2]
  | x :: xs, v :: vs, ⟨a, b⟩ => by
    rw [List.reverse_cons, List.reverse_cons]
    exact all2.app (all2.rev b) ⟨a, True.intro⟩
  | [], _ :: _, z => z.elim
  | _ :: _, [], z => z.elim

section
variable (K : PySem.W.Frag) (mg : Str → Option Value)
/-- the values vs stand for x, over the frozen heap F -/
def rl : (t : Ty) → t.den → List V → Hp → Prop
  | .int, i, vs, _ => vs = [.int i]
  | .bool, b, vs, _ => vs = [.bl b]
  | .str, s, vs, _ => vs = [.str s]
  | .non, _, vs, _ => vs = [.non]
  | .scr, xs, vs, F => ∃ a, vs = [.ref a] ∧ SqL K F a (xs.map V.int)
  | .opt t, x, vs, F => match x with
    | none => vs = [.non]
    | some y => vs ≠ [.non] ∧ rl t y vs F
  | .tup fs, x, vs, F => ∃ a ws, vs = [.ref a] ∧ SqT K F a ws ∧ rl fs x ws F
  | .vtup t, xs, vs, F => ∃ a ws, vs = [.ref a] ∧ SqT K F a ws ∧ all2 (fun x w => rl t x [w] F) xs ws
  | .hl fs, x, vs, F => ∃ a ws, vs = [.ref a] ∧ F a = some (.lst ws) ∧ rl fs x ws F
  | .list t, xs, vs, F => ∃ a ws, vs = [.ref a] ∧ F a = some (.lst ws) ∧ all2 (fun x w => rl t x [w] F) xs ws
  | .pr a b, x, vs, F => ∃ v r, vs = v :: r ∧ rl a x.1 [v] F ∧ rl b x.2 r F
  | .nl, _, vs, _ => vs = []
  | .sum a b, x, vs, F => match x with
    | .inl y => rl a y vs F
    | .inr y => rl b y vs F
  | .ins c ns fs, x, vs, F => ∃ a C dx ws, vs = [.ref a] ∧ mg c = some (.ref C) ∧ F a = some (.ins C dx (ns.zip ws)) ∧ ns.length = ws.length ∧ rl fs x ws F
end

theorem sqT_mono {K : PySem.W.Frag} {F F' : Hp} {a : Addr} {ws : List V} (h : ∀ b o, F b = some o → ((∃ xs, o = .tup xs) ∨ (∃ u v, o = .frz u v)) → F' b = some o) (q : SqT K F a ws) : SqT K F' a ws := by
  rcases q with (q | ⟨o, q⟩) | q
  · exact .inl (.inl (h _ _ q (.inl ⟨_, rfl⟩)))
  · exact .inl (.inr ⟨o, h _ _ q (.inr ⟨_, _, rfl⟩)⟩)
  · exact .inr q
section
variable {K : PySem.W.Frag} {mg : Str → Option Value}
theorem rl_mono {F F' : Hp} (h : Same F F') : ∀ (t : Ty) (x : t.den) (vs : List V), rl K mg t x vs F → rl K mg t x vs F' := by
  intro t
  induction t with
  | int => intro x vs q; exact q
  | bool => intro x vs q; exact q
  | str => intro x vs q; exact q
  | non => intro x vs q; exact q
  | scr => intro x vs q; obtain ⟨a, e, s⟩ := q; exact ⟨a, e, h.seq s⟩
  | opt t ih =>
    intro x vs q
    cases x with
    | none => exact q
    | some y => exact ⟨q.1, ih y vs q.2⟩
  | tup fs ih =>
    intro x vs q
    obtain ⟨a, ws, e, s, r⟩ := q
    exact ⟨a, ws, e, sqT_mono (fun b o z _ => h b o z) s, ih x ws r⟩
  | vtup t ih =>
    intro x vs q
    obtain ⟨a, ws, e, s, r⟩ := q
    exact ⟨a, ws, e, sqT_mono (fun b o z _ => h b o z) s, r.imp fun y w z => ih y [w] z⟩
  | hl fs ih =>
    intro x vs q
    obtain ⟨a, ws, e, s, r⟩ := q
    exact ⟨a, ws, e, h _ _ s, ih x ws r⟩
  | list t ih =>
    intro x vs q
    obtain ⟨a, ws, e, s, r⟩ := q
    exact ⟨a, ws, e, h _ _ s, r.imp fun y w z => ih y [w] z⟩
  | pr a b iha ihb =>
    intro x vs q
    obtain ⟨v, r, e, p1, p2⟩ := q
    exact ⟨v, r, e, iha _ _ p1, ihb _ _ p2⟩
  | nl => intro x vs q; exact q
  | sum a b iha ihb =>
    intro x vs q
    cases x with
    | inl y => exact iha y vs q
    | inr y => exact ihb y vs q
  | ins c ns fs ih =>
    intro x vs q
    obtain ⟨a, C, dx, ws, e, m, g, l, r⟩ := q
    exact ⟨a, C, dx, ws, e, m, h _ _ g, l, ih x ws r⟩
theorem rl_flat {F F' : Hp} (h : ∀ b o, F b = some o → ((∃ xs, o = .tup xs) ∨ (∃ u v, o = .frz u v)) → F' b = some o) :
    ∀ (t : Ty) (_ : t.flat = true) (x : t.den) (vs : List V), rl K mg t x vs F → rl K mg t x vs F' := by
  intro t
  induction t with
  | int => intro _ x vs q; exact q
  | bool => intro _ x vs q; exact q
  | str => intro _ x vs q; exact q
  | non => intro _ x vs q; exact q
  | scr => intro f; cases f
  | opt t ih =>
    intro f x vs q
    cases x with
    | none => exact q
    | some y => exact ⟨q.1, ih f y vs q.2⟩
  | tup fs ih =>
    intro f x vs q
    obtain ⟨a, ws, e, s, r⟩ := q
    exact ⟨a, ws, e, sqT_mono h s, ih f x ws r⟩
  | vtup t ih =>
    intro f x vs q
    obtain ⟨a, ws, e, s, r⟩ := q
    exact ⟨a, ws, e, sqT_mono h s, r.imp fun y w z => ih f y [w] z⟩
  | hl fs ih => intro f; cases f
  | list t ih => intro f; cases f
  | pr a b iha ihb =>
    intro f x vs q
    have f' := (Bool.and_eq_true _ _).mp (show (a.flat && b.flat) = true from f)
    obtain ⟨v, r, e, p1, p2⟩ := q
    exact ⟨v, r, e, iha f'.1 _ _ p1, ihb f'.2 _ _ p2⟩
  | nl => intro _ x vs q; exact q
  | sum a b iha ihb =>
    intro f x vs q
    have f' := (Bool.and_eq_true _ _).mp (show (a.flat && b.flat) = true from f)
    cases x with
    | inl y => exact iha f'.1 y vs q
    | inr y => exact ihb f'.2 y vs q
  | ins c ns fs ih => intro f; cases f
end

/-! ## owned things -/
inductive Ow where
  | d (t : Ty) | l (o : Ow) | ins (c : Str) (ns : List Str) (fs : Ow) | pr (a b : Ow) | nl
@[reducible] def Ow.ty : Ow → Ty
  | .d t => t
  | .l o => .list o.ty
  | .ins c ns fs => .ins c ns fs.ty
  | .pr a b => .pr a.ty b.ty
  | .nl => .nl
def Ow.flat : Ow → Bool
  | .d t => t.flat
  | .l o => o.flat
  | .ins _ _ fs => fs.flat
  | .pr a b => a.flat && b.flat
  | .nl => true
def all3 {α : Type} (R : α → V → List Addr → Prop) : List α → List V → List (List Addr) → Prop
  | [], [], [] => True
  | x :: xs, v :: vs, f :: fs => R x v f ∧ all3 R xs vs fs
  | _, _, _ => False
theorem all3.imp {α : Type} {R S : α → V → List Addr → Prop} : ∀ {xs : List α} {vs : List V} {fs : List (List Addr)}, (∀ x v f, f ∈ fs → R x v f → S x v f) → all3 R xs vs fs → all3 S xs vs fs
  | [], [], [], _, _ => True.intro
  | _ :: _, _ :: _, f :: fs, h, ⟨a, b⟩ => ⟨h _ _ _ (List.mem_cons_self ..) a, all3.imp (fun x v f m => h x v f (List.mem_cons_of_mem _ m)) b⟩
  | [], _ :: _, _, _, z => z.elim
  | [], [], _ :: _, _, z => z.elim
  | _ :: _, [], _, _, z => z.elim
  | _ :: _, _ :: _, [], _, z => z.elim
theorem all3.two {α : Type} {R : α → V → List Addr → Prop} {S : α → V → Prop} : ∀ {xs : List α} {vs : List V} {fs : List (List Addr)}, (∀ x v f, f ∈ fs → R x v f → S x v) → all3 R xs vs fs → all2 S xs vs
  | [], [], [], _, _ => True.intro
  | _ :: _, _ :: _, f :: fs, h, ⟨a, b⟩ => ⟨h _ _ _ (List.mem_cons_self ..) a, all3.two (fun x v f m => h x v f (List.mem_cons_of_mem _ m)) b⟩
  | [], _ :: _, _, _, z => z.elim
  | [], [], _ :: _, _, z => z.elim
  | _ :: _, [], _, _, z => z.elim
  | _ :: _, _ :: _, [], _, z => z.elim
theorem all3.of2 {α : Type} {R : α → V → List Addr → Prop} {S : α → V → Prop} (h : ∀ x v, S x v → R x v []) : ∀ {xs : List α} {vs : List V}, all2 S xs vs → all3 R xs vs (xs.map fun _ => [])
  | [], [], _ => True.intro
  | _ :: _, _ :: _, ⟨a, b⟩ => ⟨h _ _ a, all3.of2 h b⟩
  | [], _ :: _, z => z.elim
  | _ :: _, [], z => z.elim
theorem flat_nil {α β : Type} : ∀ (xs : List α), (xs.map fun _ => ([] : List β)).flatten = []
  | [] => rfl
  | _ :: xs => by
    rw [List.map_cons, List.flatten_cons, flat_nil xs]; rfl

section
variable (K : PySem.W.Frag) (mg : Str → Option Value)
/-- vs stand for x; its changeable cells are fp, as H has them; its data lie in F -/
def ol : (o : Ow) → o.ty.den → List V → Hp → Hp → List Addr → Prop
  | .d t, x, vs, F, _, fp => fp = [] ∧ rl K mg t x vs F
  | .l o, xs, vs, F, H, fp => ∃ p ws fps, vs = [.ref p] ∧ fp = p :: fps.flatten ∧ H p = some (.lst ws) ∧ all3 (fun x w f => ol o x [w] F H f) xs ws fps
  | .ins c ns fs, x, vs, F, H, fp => ∃ p C dx ws fp', vs = [.ref p] ∧ fp = p :: dx :: fp' ∧ mg c = some (.ref C) ∧ H p = some (.ins C dx (ns.zip ws)) ∧ H dx = some (.own p) ∧ ns.length = ws.length ∧ ol fs x ws F H fp'
  | .pr a b, x, vs, F, H, fp => ∃ v r f1 f2, vs = v :: r ∧ fp = f1 ++ f2 ∧ ol a x.1 [v] F H f1 ∧ ol b x.2 r F H f2
  | .nl, _, vs, _, _, fp => vs = [] ∧ fp = []
end
/-- no tuple and nothing frozen -/
def Cell (H : Hp) (a : Addr) : Prop := ∃ o, H a = some o ∧ (∀ xs, o ≠ .tup xs) ∧ ∀ u v, o ≠ .frz u v
section
variable {K : PySem.W.Frag} {mg : Str → Option Value}
theorem ol_frame {F F' H H' : Hp} (h : Same F F') : ∀ (o : Ow) (x : o.ty.den) (vs : List V) (fp : List Addr), (∀ a ∈ fp, H' a = H a) → ol K mg o x vs F H fp → ol K mg o x vs F' H' fp := by
  intro o
  induction o with
  | d t => intro x vs fp _ q; exact ⟨q.1, rl_mono h t x vs q.2⟩
  | l o ih =>
    intro xs vs fp hf q
    obtain ⟨p, ws, fps, e1, e2, e3, r⟩ := q
    subst e2
    refine ⟨p, ws, fps, e1, rfl, (hf p (List.mem_cons_self ..)).trans e3, r.imp fun x w f m z => ih x [w] f (fun a ha => hf a ?_) z⟩
    exact List.mem_cons_of_mem _ (List.mem_flatten.mpr ⟨f, m, ha⟩)
  | ins c ns fs ih =>
    intro x vs fp hf q
    obtain ⟨p, C, dx, ws, fp', e1, e2, e3, e4, e5, e6, r⟩ := q
    subst e2
    exact ⟨p, C, dx, ws, fp', e1, rfl, e3, (hf p (by simp)).trans e4, (hf dx (by simp)).trans e5, e6, ih x ws fp' (fun a ha => hf a (by simp [ha])) r⟩
  | pr a b iha ihb =>
    intro x vs fp hf q
    obtain ⟨v, r, f1, f2, e1, e2, r1, r2⟩ := q
    subst e2
    exact ⟨v, r, f1, f2, e1, rfl, iha _ _ _ (fun a ha => hf a (List.mem_append_left _ ha)) r1, ihb _ _ _ (fun a ha => hf a (List.mem_append_right _ ha)) r2⟩
  | nl => intro x vs fp _ q; exact q
theorem ol_cell {F H : Hp} : ∀ (o : Ow) (x : o.ty.den) (vs : List V) (fp : List Addr), ol K mg o x vs F H fp → ∀ a ∈ fp, Cell H a := by
  intro o
  induction o with
  | d t => intro x vs fp q a ha; rw [q.1] at ha; cases ha
  | l o ih =>
    intro xs vs fp q a ha
    obtain ⟨p, ws, fps, e1, e2, e3, r⟩ := q
    subst e2
    rcases List.mem_cons.mp ha with rfl | ha
    · exact ⟨_, e3, fun _ z => (nomatch z), fun _ _ z => (nomatch z)⟩
    · obtain ⟨f, hf, ha⟩ := List.mem_flatten.mp ha
      have : ∀ {xs : List o.ty.den} {ws : List V} {fps : List (List Addr)}, all3 (fun x w f => ol K mg o x [w] F H f) xs ws fps → f ∈ fps → Cell H a := by
        intro xs
        induction xs with
        | nil =>
          intro ws fps r m
          cases ws with
          | nil =>
            cases fps with
            | nil => cases m
            | cons _ _ => exact r.elim
          | cons _ _ => exact r.elim
        | cons x xs ihx =>
          intro ws fps r m
          cases ws with
          | nil => exact r.elim
          | cons w ws =>
            cases fps with
            | nil => exact r.elim
            | cons g fps =>
              rcases List.mem_cons.mp m with rfl | m
              · exact ih x [w] _ r.1 a ha
              · exact ihx r.2 m
      exact this r hf
  | ins c ns fs ih =>
    intro x vs fp q a ha
    obtain ⟨p, C, dx, ws, fp', e1, e2, e3, e4, e5, e6, r⟩ := q
    subst e2
    rcases List.mem_cons.mp ha with rfl | ha
    · exact ⟨_, e4, fun _ z => (nomatch z), fun _ _ z => (nomatch z)⟩
    rcases List.mem_cons.mp ha with rfl | ha
    · exact ⟨_, e5, fun _ z => (nomatch z), fun _ _ z => (nomatch z)⟩
    exact ih x ws fp' r a ha
  | pr a b iha ihb =>
    intro x vs fp q c hc
    obtain ⟨v, r, f1, f2, e1, e2, r1, r2⟩ := q
    subst e2
    rcases List.mem_append.mp hc with h | h
    · exact iha _ _ _ r1 c h
    · exact ihb _ _ _ r2 c h
  | nl => intro x vs fp q a ha; rw [q.2] at ha; cases ha
/-- frozen: F with the cells -/
theorem ol_rl {F F' H : Hp} (h : Same F F') : ∀ (o : Ow) (x : o.ty.den) (vs : List V) (fp : List Addr), (∀ a ∈ fp, F' a = H a) → ol K mg o x vs F H fp → rl K mg o.ty x vs F' := by
  intro o
  induction o with
  | d t => intro x vs fp _ q; exact rl_mono h t x vs q.2
  | l o ih =>
    intro xs vs fp hf q
    obtain ⟨p, ws, fps, e1, e2, e3, r⟩ := q
    subst e2
    refine ⟨p, ws, e1, (hf p (List.mem_cons_self ..)).trans e3, r.two fun x w f m z => ih x [w] f (fun a ha => hf a ?_) z⟩
    exact List.mem_cons_of_mem _ (List.mem_flatten.mpr ⟨f, m, ha⟩)
  | ins c ns fs ih =>
    intro x vs fp hf q
    obtain ⟨p, C, dx, ws, fp', e1, e2, e3, e4, e5, e6, r⟩ := q
    subst e2
    exact ⟨p, C, dx, ws, e1, e3, (hf p (by simp)).trans e4, e6, ih x ws fp' (fun a ha => hf a (by simp [ha])) r⟩
  | pr a b iha ihb =>
    intro x vs fp hf q
    obtain ⟨v, r, f1, f2, e1, e2, r1, r2⟩ := q
    subst e2
    exact ⟨v, r, e1, iha _ _ _ (fun a ha => hf a (List.mem_append_left _ ha)) r1, ihb _ _ _ (fun a ha => hf a (List.mem_append_right _ ha)) r2⟩
  | nl => intro x vs fp _ q; exact q.1
theorem ol_flat {F F' H : Hp} (h : ∀ b o, F b = some o → ((∃ xs, o = .tup xs) ∨ (∃ u v, o = .frz u v)) → F' b = some o) :
    ∀ (o : Ow) (_ : o.flat = true) (x : o.ty.den) (vs : List V) (fp : List Addr), ol K mg o x vs F H fp → ol K mg o x vs F' H fp := by
  intro o
  induction o with
  | d t => intro f x vs fp q; exact ⟨q.1, rl_flat h t f x vs q.2⟩
  | l o ih =>
    intro f xs vs fp q
    obtain ⟨p, ws, fps, e1, e2, e3, r⟩ := q
    exact ⟨p, ws, fps, e1, e2, e3, r.imp fun x w g m z => ih f x [w] g z⟩
  | ins c ns fs ih =>
    intro f x vs fp q
    obtain ⟨p, C, dx, ws, fp', e1, e2, e3, e4, e5, e6, r⟩ := q
    exact ⟨p, C, dx, ws, fp', e1, e2, e3, e4, e5, e6, ih f x ws fp' r⟩
  | pr a b iha ihb =>
    intro f x vs fp q
    have f' := (Bool.and_eq_true _ _).mp (show (a.flat && b.flat) = true from f)
    obtain ⟨v, r, f1, f2, e1, e2, r1, r2⟩ := q
    exact ⟨v, r, f1, f2, e1, e2, iha f'.1 _ _ _ r1, ihb f'.2 _ _ _ r2⟩
  | nl => intro _ x vs fp q; exact q
end

/-! ## growing heaps -/
structure Ext (F H F' H' : Hp) : Prop where
  f : Same F F'
  h : Same H H'
  i : Same F' H'
  n : ∀ p, H p ≠ none → F p = none → F' p = none
theorem Ext.refl {F H : Hp} (h : Same F H) : Ext F H F H := ⟨Same.refl _, Same.refl _, h, fun _ _ q => q⟩
theorem Ext.trans {F H F1 H1 F2 H2 : Hp} (a : Ext F H F1 H1) (b : Ext F1 H1 F2 H2) : Ext F H F2 H2 :=
  ⟨a.f.trans b.f, a.h.trans b.h, b.i, fun p hp hf => b.n p (fun z => hp (a.h.free z)) (a.n p hp hf)⟩
/-- a new object, known to F -/
theorem Ext.new {F H : Hp} {p : Addr} {o : HO} (h : Same F H) (n : H p = none) : Ext F H (upd F p o) (upd H p o) := by
  have nf : F p = none := h.free n
  refine ⟨fun b u e => by rw [upd_ne (ne_of_none e nf)]; exact e, fun b u e => by rw [upd_ne (ne_of_none e n)]; exact e, fun b u e => ?_, fun q hq hf => ?_⟩
  · by_cases hb : b = p
    · subst hb; rw [upd_same] at e ⊢; exact e
    · rw [upd_ne hb] at e ⊢; exact h _ _ e
  · have : q ≠ p := fun z => hq (z ▸ n)
    rw [upd_ne this]; exact hf
/-- a new object that F does not know -/
theorem Ext.cell {F H : Hp} {p : Addr} {o : HO} (h : Same F H) (n : H p = none) : Ext F H F (upd H p o) := by
  refine ⟨Same.refl _, fun b u e => by rw [upd_ne (ne_of_none e n)]; exact e, fun b u e => ?_, fun q hq hf => hf⟩
  have e' := h _ _ e
  rw [upd_ne (ne_of_none e' n)]; exact e'
/-- a heap grows, F stands -/
theorem Ext.grow {F H H' : Hp} (h : Same F H) (g : Same H H') : Ext F H F H' := ⟨Same.refl _, g, h.trans g, fun _ _ q => q⟩

/-! ## results -/
inductive Rt where
  | d (t : Ty) | o (o : Ow)
@[reducible] def Rt.ty : Rt → Ty
  | .d t => t
  | .o u => u.ty
abbrev Rt.den (r : Rt) : Type := r.ty.den
def Rt.flat : Rt → Bool
  | .d t => t.flat
  | .o u => u.flat
section
variable (K : PySem.W.Frag) (mg : Str → Option Value)
/-- v stands for x behind; H: the heap ahead -/
def rtr : (r : Rt) → r.den → V → Hp → Hp → Hp → Prop
  | .d t, x, v, _, F', _ => rl K mg t x [v] F'
  | .o o, x, v, H, F', H' => ∃ fp, ol K mg o x [v] F' H' fp ∧ fp.Nodup ∧ ∀ a ∈ fp, F' a = none ∧ H a = none
end
/-- how an exception lies -/
def xr (mg : Str → Option Value) (e : Exn) (cls : Value) (d : Option Addr) (H : Hp) : Prop :=
  ∃ C, mg e.c = some (.ref C) ∧ cls = .ref C ∧ match e.p with
    | .n => d = none
    | .i z => ∃ dx, d = some dx ∧ H dx = some (.xd [(e.f, .int z)])
    | .s z => ∃ dx, d = some dx ∧ H dx = some (.xd [(e.f, .str z)])

/-! ## contexts -/
inductive Slot where
  | no | d (t : Ty) (x : t.den) | o (o : Ow) (x : o.ty.den)
abbrev Ctx := List Slot
@[reducible] def slotOf : (r : Rt) → r.den → Slot
  | .d t, x => .d t x
  | .o o, x => .o o x
def Slot.hide : Slot → Slot
  | .o _ _ => .no
  | s => s
def hide : Ctx → Ctx
  | [] => []
  | s :: r => s.hide :: hide r
theorem hide_get : ∀ {Γ : Ctx} {i : Nat} {s : Slot}, (hide Γ)[i]? = some s → ∃ u, Γ[i]? = some u ∧ s = u.hide
  | [], _, _, e => by simp [hide] at e
  | u :: _, 0, s, e => ⟨u, rfl, by simpa [hide] using e.symm⟩
  | _ :: Γ, i + 1, s, e => by
    have e' : (hide Γ)[i]? = some s := by simpa [hide] using e
    obtain ⟨u, h1, h2⟩ := hide_get e'
    exact ⟨u, by simpa using h1, h2⟩
section
variable (K : PySem.W.Frag) (mg : Str → Option Value)
def sd : Slot → Option V → Hp → Prop
  | .no, _, _ => True
  | .d t x, ov, F => ∃ v, ov = some v ∧ rl K mg t x [v] F
  | .o o x, ov, F => ∃ v, ov = some v ∧ rl K mg o.ty x [v] F
def so : Slot → Option V → Hp → Hp → List Addr → Prop
  | .no, _, _, _, fp => fp = []
  | .d t x, ov, F, _, fp => fp = [] ∧ ∃ v, ov = some v ∧ rl K mg t x [v] F
  | .o o x, ov, F, H, fp => ∃ v, ov = some v ∧ ol K mg o x [v] F H fp
def SD (Γ : Ctx) (σ : St) (F : Hp) : Prop := ∀ (i : Nat) (s : Slot), Γ[i]? = some s → ∃ ov, σ[i]? = some ov ∧ sd K mg s ov F
structure Own (Γ : Ctx) (σ : St) (F H B : Hp) (fps : Nat → List Addr) : Prop where
  at_ : ∀ (i : Nat) (s : Slot), Γ[i]? = some s → ∃ ov, σ[i]? = some ov ∧ so K mg s ov F H (fps i)
  out : ∀ i, Γ[i]? = none → fps i = []
  nd : ∀ i, (fps i).Nodup
  sep : ∀ i j, i ≠ j → ∀ a ∈ fps i, a ∉ fps j
  new : ∀ i, ∀ a ∈ fps i, F a = none ∧ B a = none
end
/-- the entry: the frozen heap, the heap, slots that stay (within a try), what they hold -/
structure Ent where
  F0 : Hp
  B : Hp
  hk : List Nat
  s0 : St
section
variable (K : PySem.W.Frag) (mg : Str → Option Value)
structure SG (E : Ent) (Γ : Ctx) (σ : St) (F H : Hp) : Prop where
  e0 : Ext E.F0 E.B F H
  kp : ∀ i ∈ E.hk, σ[i]? = E.s0[i]?
  ow : ∃ fps, Own K mg Γ σ F H E.B fps
end
section
variable {K : PySem.W.Frag} {mg : Str → Option Value} {Γ : Ctx} {σ : St} {F F' H H' B : Hp} {E : Ent}
theorem sd_mono (h : Same F F') : ∀ {s : Slot} {ov : Option V}, sd K mg s ov F → sd K mg s ov F'
  | .no, _, _ => True.intro
  | .d t x, _, ⟨v, e, r⟩ => ⟨v, e, rl_mono h t x _ r⟩
  | .o o x, _, ⟨v, e, r⟩ => ⟨v, e, rl_mono h o.ty x _ r⟩
theorem SD.mono (q : SD K mg Γ σ F) (h : Same F F') : SD K mg Γ σ F' := fun i s e => let ⟨ov, e1, r⟩ := q i s e; ⟨ov, e1, sd_mono h r⟩
theorem so_cell : ∀ {s : Slot} {ov : Option V} {fp : List Addr}, so K mg s ov F H fp → ∀ a ∈ fp, Cell H a
  | .no, _, _, e, a, ha => by rw [show _ = _ from e] at ha; cases ha
  | .d t x, _, _, ⟨e, _⟩, a, ha => by rw [e] at ha; cases ha
  | .o o x, _, _, ⟨_, _, r⟩, a, ha => ol_cell o x _ _ r a ha
theorem so_frame (h : Same F F') : ∀ {s : Slot} {ov : Option V} {fp : List Addr}, (∀ a ∈ fp, H' a = H a) → so K mg s ov F H fp → so K mg s ov F' H' fp
  | .no, _, _, _, e => e
  | .d t x, _, _, _, ⟨e, v, e1, r⟩ => ⟨e, v, e1, rl_mono h t x _ r⟩
  | .o o x, _, _, hf, ⟨v, e1, r⟩ => ⟨v, e1, ol_frame h o x _ _ hf r⟩
theorem Own.cell {fps : Nat → List Addr} (q : Own K mg Γ σ F H B fps) (i : Nat) : ∀ a ∈ fps i, Cell H a := fun a ha => by
  cases e : Γ[i]? with
  | none => rw [q.out i e] at ha; cases ha
  | some s =>
    obtain ⟨ov, _, r⟩ := q.at_ i s e
    exact so_cell r a ha
/-- all that is owned, frozen -/
noncomputable def frozen (F H : Hp) (fps : Nat → List Addr) : Hp := open Classical in fun a => if ∃ i, a ∈ fps i then H a else F a
theorem frozen_in {fps : Nat → List Addr} {i : Nat} {a : Addr} (h : a ∈ fps i) : frozen F H fps a = H a := by
  unfold frozen; rw [if_pos ⟨i, h⟩]
theorem frozen_out {fps : Nat → List Addr} {a : Addr} (h : ∀ i, a ∉ fps i) : frozen F H fps a = F a := by
  unfold frozen; rw [if_neg fun ⟨i, z⟩ => h i z]
theorem Own.f_frozen {fps : Nat → List Addr} (q : Own K mg Γ σ F H B fps) : Same F (frozen F H fps) := fun b o e => by
  rw [frozen_out fun i hi => by rw [(q.new i b hi).1] at e; cases e]; exact e
theorem Own.frozen_h {fps : Nat → List Addr} (q : Own K mg Γ σ F H B fps) (hs : Same F H) : Same (frozen F H fps) H := fun b o e => by
  by_cases h : ∃ i, b ∈ fps i
  · obtain ⟨i, hi⟩ := h
    rw [frozen_in hi] at e; exact e
  · rw [frozen_out fun i hi => h ⟨i, hi⟩] at e; exact hs _ _ e
theorem Own.sd {fps : Nat → List Addr} (q : Own K mg Γ σ F H B fps) : SD K mg Γ σ (frozen F H fps) := fun i s e => by
  obtain ⟨ov, e1, r⟩ := q.at_ i s e
  refine ⟨ov, e1, ?_⟩
  cases s with
  | no => exact True.intro
  | d t x => exact sd_mono q.f_frozen r.2
  | o o x =>
    obtain ⟨v, e2, r⟩ := r
    exact ⟨v, e2, ol_rl q.f_frozen o x _ _ (fun a ha => frozen_in ha) r⟩
theorem SG.sd_hide (q : SG K mg E Γ σ F H) : SD K mg (hide Γ) σ F := fun i s e => by
  obtain ⟨_, _, fps, q⟩ := q
  obtain ⟨u, e1, rfl⟩ := hide_get e
  obtain ⟨ov, e2, r⟩ := q.at_ i u e1
  refine ⟨ov, e2, ?_⟩
  cases u with
  | no => exact True.intro
  | d t x => exact r.2
  | o o x => exact True.intro
/-- F' without what is owned in F's place -/
noncomputable def unfreeze (F' : Hp) (fps : Nat → List Addr) : Hp := open Classical in fun a => if ∃ i, a ∈ fps i then none else F' a
theorem unfreeze_in {fps : Nat → List Addr} {i : Nat} {a : Addr} (h : a ∈ fps i) : unfreeze F fps a = none := by
  unfold unfreeze; rw [if_pos ⟨i, h⟩]
theorem unfreeze_out {fps : Nat → List Addr} {a : Addr} (h : ∀ i, a ∉ fps i) : unfreeze F fps a = F a := by
  unfold unfreeze; rw [if_neg fun ⟨i, z⟩ => h i z]
theorem unfreeze_le {fps : Nat → List Addr} : Same (unfreeze F fps) F := fun b o e => by
  by_cases h : ∃ i, b ∈ fps i
  · obtain ⟨i, hi⟩ := h
    rw [unfreeze_in hi] at e; cases e
  · rw [unfreeze_out fun i hi => h ⟨i, hi⟩] at e; exact e
/-- behind an evaluation under the view that all that is owned is frozen -/
theorem Own.back {fps : Nat → List Addr} (q : Own K mg Γ σ F H B fps) (hs : Same F H) (x : Ext (frozen F H fps) H F' H') :
    Ext F H (unfreeze F' fps) H' ∧ ∀ b o, F' b = some o → ((∃ xs, o = .tup xs) ∨ (∃ u v, o = .frz u v)) → (unfreeze F' fps) b = some o := by
  refine ⟨⟨fun b o e => ?_, x.h, fun b o e => x.i _ _ (unfreeze_le _ _ e), fun p hp hf => ?_⟩, fun b o e hk => ?_⟩
  · rw [unfreeze_out fun i hi => by rw [(q.new i b hi).1] at e; cases e]
    exact x.f _ _ (q.f_frozen _ _ e)
  · by_cases h : ∃ i, p ∈ fps i
    · obtain ⟨i, hi⟩ := h
      exact unfreeze_in hi
    · rw [unfreeze_out fun i hi => h ⟨i, hi⟩]
      exact x.n p hp (by rw [frozen_out fun i hi => h ⟨i, hi⟩]; exact hf)
  · refine (unfreeze_out fun i hi => ?_).trans e
    obtain ⟨u, h1, h2, h3⟩ := q.cell i b hi
    have e1 := x.i _ _ e
    rw [x.h _ _ h1] at e1
    cases e1
    rcases hk with ⟨xs, rfl⟩ | ⟨c, d, rfl⟩
    · exact h2 _ rfl
    · exact h3 _ _ rfl
theorem rtr_flat {r : Rt} (hf : r.flat = true) {G : Hp} {x : r.den} {v : V} (h : ∀ b o, F b = some o → ((∃ xs, o = .tup xs) ∨ (∃ u v, o = .frz u v)) → G b = some o) (hg : Same G F)
    (q : rtr K mg r x v H F H') : rtr K mg r x v H G H' := by
  cases r with
  | d t => exact rl_flat h t hf x _ q
  | o u =>
    obtain ⟨fp, q, nd, nw⟩ := q
    exact ⟨fp, ol_flat h u hf x _ _ q, nd, fun a ha => ⟨hg.free (nw a ha).1, (nw a ha).2⟩⟩
/-- the central step: an evaluation of a flat result under the view -/
theorem SG.eval (q : SG K mg E Γ σ F H) {r : Rt} (hf : r.flat = true) : ∃ G, Same G H ∧ Same F G ∧ SD K mg Γ σ G ∧
    ∀ F' H', Ext G H F' H' → ∃ F2, Ext F H F2 H' ∧ Same F2 F' ∧ ∀ (x : r.den) (v : V), rtr K mg r x v H F' H' → rtr K mg r x v H F2 H' := by
  obtain ⟨e0, _, fps, q⟩ := q
  refine ⟨frozen F H fps, q.frozen_h e0.i, q.f_frozen, q.sd, fun F' H' x => ?_⟩
  obtain ⟨y, z⟩ := q.back e0.i x
  exact ⟨_, y, unfreeze_le, fun x v r => rtr_flat hf z unfreeze_le r⟩
theorem Own.grow {fps : Nat → List Addr} (q : Own K mg Γ σ F H B fps) (x : Ext F H F' H') : Own K mg Γ σ F' H' B fps := by
  refine ⟨fun i s e => ?_, q.out, q.nd, q.sep, fun i a ha => ⟨x.n a ?_ (q.new i a ha).1, (q.new i a ha).2⟩⟩
  · obtain ⟨ov, e1, r⟩ := q.at_ i s e
    refine ⟨ov, e1, so_frame x.f (fun a ha => ?_) r⟩
    obtain ⟨o, h1, _⟩ := so_cell r a ha
    rw [h1, x.h _ _ h1]
  · obtain ⟨o, h1, _⟩ := q.cell i a ha
    rw [h1]; exact fun z => nomatch z
/-- one slot anew -/
theorem Own.put {fps : Nat → List Addr} {i : Nat} {s : Slot} {ov : Option V} {fp : List Addr} (q : Own K mg Γ σ F H B fps) (hi : i < Γ.length) (r : so K mg s ov F H fp) (nd : fp.Nodup)
    (sep : ∀ j, j ≠ i → ∀ a ∈ fp, a ∉ fps j) (nw : ∀ a ∈ fp, F a = none ∧ B a = none) : Own K mg (Γ.set i s) (σ.set i ov) F H B (fun j => if j = i then fp else fps j) := by
  have his : i < σ.length := by
    obtain ⟨ov', e, _⟩ := q.at_ i Γ[i] (List.getElem?_eq_getElem hi)
    exact (List.getElem?_eq_some_iff.mp e).1
  refine ⟨fun j s' e => ?_, fun j e => ?_, fun j => ?_, fun j k hjk a ha => ?_, fun j a ha => ?_⟩
  · by_cases hj : j = i
    · subst hj
      rw [List.getElem?_set_self hi] at e
      cases e
      exact ⟨ov, List.getElem?_set_self his, by rw [if_pos rfl]; exact r⟩
    · rw [List.getElem?_set_ne (Ne.symm hj)] at e
      obtain ⟨ov', e1, r'⟩ := q.at_ j s' e
      exact ⟨ov', by rw [List.getElem?_set_ne (Ne.symm hj)]; exact e1, by rw [if_neg hj]; exact r'⟩
  · have hj : j ≠ i := fun z => by
      subst z
      rw [List.getElem?_set_self hi] at e; cases e
    rw [List.getElem?_set_ne (Ne.symm hj)] at e
    rw [if_neg hj]; exact q.out j e
  · by_cases hj : j = i
    · rw [if_pos hj]; exact nd
    · rw [if_neg hj]; exact q.nd j
  · by_cases hj : j = i
    · have hk : k ≠ i := fun z => hjk (hj.trans z.symm)
      rw [if_pos hj] at ha
      rw [if_neg hk]; exact sep k hk a ha
    · rw [if_neg hj] at ha
      by_cases hk : k = i
      · rw [if_pos hk]; exact fun z => sep j hj a z ha
      · rw [if_neg hk]; exact q.sep j k hjk a ha
  · by_cases hj : j = i
    · rw [if_pos hj] at ha; exact nw a ha
    · rw [if_neg hj] at ha; exact q.new j a ha
/-- the state behind a growth that leaves what is owned -/
theorem SG.grow (q : SG K mg E Γ σ F H) (x : Ext F H F' H') : SG K mg E Γ σ F' H' :=
  let ⟨e0, kp, fps, g⟩ := q
  ⟨e0.trans x, kp, fps, g.grow x⟩
/-- a slot is set to what an evaluation gave -/
theorem SG.set {r : Rt} {x : r.den} {v : V} {i : Nat} (q : SG K mg E Γ σ F H) (e : Ext F H F' H') (rr : rtr K mg r x v H F' H') (hi : i < Γ.length) (hk : i ∉ E.hk) : SG K mg E (Γ.set i (slotOf r x)) (σ.set i (some v)) F' H' := by
  obtain ⟨e0, kp, fps, g⟩ := q
  have g1 := g.grow e
  have kp' : ∀ j ∈ E.hk, (σ.set i (some v))[j]? = E.s0[j]? := fun j hj => by
    rw [List.getElem?_set_ne (show i ≠ j from fun z => hk (by rw [z]; exact hj))]; exact kp j hj
  cases r with
  | d t => exact ⟨e0.trans e, kp', _, g1.put hi (fp := []) ⟨rfl, v, rfl, rr⟩ List.nodup_nil (fun _ _ a ha => nomatch ha) (fun a ha => nomatch ha)⟩
  | o u =>
    obtain ⟨fp, o1, nd, nw⟩ := rr
    refine ⟨e0.trans e, kp', _, g1.put hi (fp := fp) ⟨v, rfl, o1⟩ nd (fun j _ a ha z => ?_) fun a ha => ⟨(nw a ha).1, e0.h.free (nw a ha).2⟩⟩
    obtain ⟨o, h1, _⟩ := g.cell j a z
    rw [(nw a ha).2] at h1; cases h1
/-- a slot is forgotten -/
theorem SG.drop {i : Nat} (q : SG K mg E Γ σ F H) (hi : i < Γ.length) : SG K mg E (Γ.set i .no) σ F H := by
  obtain ⟨e0, kp, fps, g⟩ := q
  obtain ⟨ov, e, _⟩ := g.at_ i Γ[i] (List.getElem?_eq_getElem hi)
  have h := g.put (s := .no) (ov := ov) (fp := []) hi rfl List.nodup_nil (fun _ _ a ha => nomatch ha) (fun a ha => nomatch ha)
  have es : σ.set i ov = σ := by
    obtain ⟨hl, e⟩ := List.getElem?_eq_some_iff.mp e
    rw [← e]; exact List.set_getElem_self hl
  rw [es] at h
  exact ⟨e0, kp, _, h⟩
/-- a slot's owned thing is frozen -/
theorem SG.freeze {i : Nat} {o : Ow} {x : o.ty.den} (q : SG K mg E Γ σ F H) (hi : Γ[i]? = some (.o o x)) : ∃ F', SG K mg E (Γ.set i (.d o.ty x)) σ F' H := by
  obtain ⟨e0, kp, fps, g⟩ := q
  have hil : i < Γ.length := (List.getElem?_eq_some_iff.mp hi).1
  obtain ⟨ov, e, v, rfl, r⟩ := g.at_ i _ hi
  -- F with the cells of slot i alone
  let fi : Nat → List Addr := fun j => if j = i then fps i else []
  have fin : ∀ a, a ∈ fps i → frozen F H fi a = H a := fun a ha => frozen_in (i := i) (by show a ∈ (if i = i then fps i else []); rw [if_pos rfl]; exact ha)
  have fout : ∀ a, a ∉ fps i → frozen F H fi a = F a := fun a ha => frozen_out fun j hj => by
    have hj : a ∈ (if j = i then fps i else []) := hj
    by_cases z : j = i
    · rw [if_pos z] at hj; exact ha hj
    · rw [if_neg z] at hj; cases hj
  have le : Same F (frozen F H fi) := fun b u eb => by
    rw [fout b fun hb => by rw [(g.new i b hb).1] at eb; cases eb]; exact eb
  have up : Same (frozen F H fi) H := fun b u eb => by
    by_cases hb : b ∈ fps i
    · rw [fin b hb] at eb; exact eb
    · rw [fout b hb] at eb; exact e0.i _ _ eb
  refine ⟨frozen F H fi, ⟨e0.f.trans le, e0.h, up, fun p hp hf => ?_⟩, kp, fun j => if j = i then [] else fps j, ?_⟩
  · by_cases hb : p ∈ fps i
    · exact absurd (g.new i p hb).2 hp
    · rw [fout p hb]; exact e0.n p hp hf
  · refine ⟨fun j s e1 => ?_, fun j e1 => ?_, fun j => ?_, fun j k hjk a ha => ?_, fun j a ha => ?_⟩
    · by_cases hj : j = i
      · subst hj
        rw [List.getElem?_set_self hil] at e1
        cases e1
        exact ⟨_, e, by rw [if_pos rfl], v, rfl, ol_rl le o x _ _ (fun a ha => fin a ha) r⟩
      · rw [List.getElem?_set_ne (Ne.symm hj)] at e1
        obtain ⟨ov', e2, r'⟩ := g.at_ j s e1
        exact ⟨ov', e2, by rw [if_neg hj]; exact so_frame le (fun _ _ => rfl) r'⟩
    · by_cases hj : j = i
      · rw [if_pos hj]
      · rw [List.getElem?_set_ne (Ne.symm hj)] at e1
        rw [if_neg hj]; exact g.out j e1
    · by_cases hj : j = i
      · rw [if_pos hj]; exact List.nodup_nil
      · rw [if_neg hj]; exact g.nd j
    · by_cases hj : j = i
      · rw [if_pos hj] at ha; cases ha
      · rw [if_neg hj] at ha
        by_cases hk : k = i
        · rw [if_pos hk]; exact fun z => nomatch z
        · rw [if_neg hk]; exact g.sep j k hjk a ha
    · by_cases hj : j = i
      · rw [if_pos hj] at ha; cases ha
      · rw [if_neg hj] at ha
        refine ⟨?_, (g.new j a ha).2⟩
        rw [fout a fun z => g.sep j i hj a ha z]; exact (g.new j a ha).1
end
end Gm
set_option Elab.async false
set_option linter.all false
set_option maxRecDepth 100000
set_option maxHeartbeats 4000000
namespace Gm
open PySem L2

/-! ## readings -/
section
variable (mg : Str → Option Value)
def post (W : WX) (σ : St) {α : Type} (m : Mx α) (F H : Hp) (P : α → Prop) : Prop := match m with
  | .ok x => P x
  | .ex e => ∀ cls d F' H', Ext F H F' H' → xr mg e cls d H' → W cls d σ H'
  | .no => False
variable (K : PySem.W.Frag)
def tR (W : WX) (Γ : Ctx) (r : Rt) (m : Mx r.den) : TE := fun σ H Q => ∃ F, Same F H ∧ SD K mg Γ σ F ∧
  post mg W σ m F H fun x => ∀ v F' H', Ext F H F' H' → rtr K mg r x v H F' H' → Q v H'
/-- arguments -/
def tA (W : WX) (Γ : Ctx) (ts : Ty) (m : Mx ts.den) : TA := fun σ H Q => ∃ F, Same F H ∧ SD K mg Γ σ F ∧
  post mg W σ m F H fun x => ∀ vs F' H', Ext F H F' H' → rl K mg ts x vs F' → Q vs H'
/-- a test -/
def tT (W : WX) (Γ : Ctx) (m : Mx Bool) : TT := fun σ H Q => ∃ F, Same F H ∧ SD K mg Γ σ F ∧
  post mg W σ m F H fun b => ∀ F' H', Ext F H F' H' → Q b H'
/-- a slice's end -/
def tP (W : WX) (Γ : Ctx) (m : Mx (Option Int)) : TO := fun σ H Q => ∃ F, Same F H ∧ SD K mg Γ σ F ∧
  post mg W σ m F H fun b => ∀ F' H', Ext F H F' H' → Q b H'
end
section
variable {mg : Str → Option Value} {K : PySem.W.Frag} {W : WX} {σ : St} {F H F' H' : Hp} {α β : Type}
theorem post.bind {m : Mx α} {k : α → Mx β} {P : β → Prop} (h : post mg W σ (m >>= k) F H P) : post mg W σ m F H fun x => post mg W σ (k x) F H P := by
  cases m with
  | ok a => exact h
  | ex e => exact h
  | no => exact h
theorem post.mono {m : Mx α} {P P' : α → Prop} (h : post mg W σ m F H P) (i : ∀ x, P x → P' x) : post mg W σ m F H P' := by
  cases m with
  | ok a => exact i a h
  | ex e => exact h
  | no => exact h
theorem post.ext {m : Mx α} {P P' : α → Prop} (x : Ext F H F' H') (h : post mg W σ m F H P) (i : ∀ x, P x → P' x) : post mg W σ m F' H' P' := by
  cases m with
  | ok a => exact i a h
  | ex e => exact fun cls d F2 H2 e2 r => h cls d F2 H2 (x.trans e2) r
  | no => exact h
theorem rtr_pre {r : Rt} {x : r.den} {v : V} {G : Hp} (g : Same H G) (q : rtr K mg r x v G F' H') : rtr K mg r x v H F' H' := by
  cases r with
  | d t => exact q
  | o u =>
    obtain ⟨fp, h1, h2, h3⟩ := q
    exact ⟨fp, h1, h2, fun a ha => ⟨(h3 a ha).1, g.free (h3 a ha).2⟩⟩
end
abbrev ER (X : Cx) (W : WX) (Γ : Ctx) (e : Expr) (r : Rt) (m : Mx r.den) : Prop := PE X e (tR X.mg X.K W Γ r m)
abbrev EM (X : Cx) (W : WX) (Γ : Ctx) (e : Expr) (t : Ty) (m : Mx t.den) : Prop := PE X e (tR X.mg X.K W Γ (.d t) m)
abbrev EO (X : Cx) (W : WX) (Γ : Ctx) (e : Expr) (o : Ow) (m : Mx o.ty.den) : Prop := PE X e (tR X.mg X.K W Γ (.o o) m)
abbrev EA (X : Cx) (W : WX) (Γ : Ctx) (es : List Expr) (ts : Ty) (m : Mx ts.den) : Prop := PA X es (tA X.mg X.K W Γ ts m)
abbrev ET (X : Cx) (W : WX) (Γ : Ctx) (e : Expr) (m : Mx Bool) : Prop := PT X e (tT X.mg X.K W Γ m)
abbrev EP' (X : Cx) (W : WX) (Γ : Ctx) (e : Option Expr) (m : Mx (Option Int)) : Prop := PO X e (tP X.mg X.K W Γ m)
theorem pe_imp {X : Cx} {e : Expr} {t t' : TE} (h : PE X e t) (i : ∀ σ H Q, t' σ H Q → t σ H Q) : PE X e t' := ⟨fun pins s σ H Q I q => h.run pins s σ H Q I (i σ H Q q)⟩
theorem pa_imp {X : Cx} {e : List Expr} {t t' : TA} (h : PA X e t) (i : ∀ σ H Q, t' σ H Q → t σ H Q) : PA X e t' := ⟨fun pos pins s σ H Q I q => h.run pos pins s σ H Q I (i σ H Q q)⟩
theorem pt_imp {X : Cx} {e : Expr} {t t' : TT} (h : PT X e t) (i : ∀ σ H Q, t' σ H Q → t σ H Q) : PT X e t' := ⟨fun pins s σ H Q I q => h.run pins s σ H Q I (i σ H Q q)⟩
theorem po_imp {X : Cx} {e : Option Expr} {t t' : TO} (h : PO X e t) (i : ∀ σ H Q, t' σ H Q → t σ H Q) : PO X e t' := ⟨fun pins s σ H Q I q => h.run pins s σ H Q I (i σ H Q q)⟩

def ofO {α : Type} : Option α → Mx α
  | some x => .ok x
  | none => .no

section
variable {X : Cx} {W : WX} {Γ : Ctx} {a b c e : Expr} {pos p p2 : Pos} {t t1 t2 : Ty} {r : Rt}

/-! ## parts in a row -/
theorem two_of {m1 : Mx t1.den} {m2 : Mx t2.den} {k : t1.den → t2.den → Mx r.den} {rR : R2}
    (hr : ∀ x y v w F H σ Q, Same F H → rl X.K X.mg t1 x [v] F → rl X.K X.mg t2 y [w] F → (post X.mg W σ (k x y) F H fun z => ∀ u F' H', Ext F H F' H' → rtr X.K X.mg r z u H F' H' → Q u H') → rR v w H Q) :
    ∀ σ H Q, tR X.mg X.K W Γ r (m1 >>= fun x => m2 >>= fun y => k x y) σ H Q → tOp rR (tR X.mg X.K W Γ (.d t1) m1) (tR X.mg X.K W Γ (.d t2) m2) σ H Q := by
  intro σ H Q ⟨F, s, d, p⟩
  refine ⟨F, s, d, p.bind.mono fun x px v F1 H1 e1 r1 => ⟨F1, e1.i, d.mono e1.f, post.ext (P' := _) e1 px.bind fun y py w F2 H2 e2 r2 => ?_⟩⟩
  refine hr x y v w F2 H2 σ Q e2.i (rl_mono e2.f t1 x _ r1) r2 ?_
  exact post.ext (e1.trans e2) py fun z pz u F3 H3 e3 r3 => pz u F3 H3 ((e1.trans e2).trans e3) (rtr_pre (e1.h.trans e2.h) r3)
theorem one_of {m1 : Mx t1.den} {k : t1.den → Mx r.den} {rR : V → Hp → VK → Prop}
    (hr : ∀ x v F H σ Q, Same F H → rl X.K X.mg t1 x [v] F → (post X.mg W σ (k x) F H fun z => ∀ u F' H', Ext F H F' H' → rtr X.K X.mg r z u H F' H' → Q u H') → rR v H Q) :
    ∀ σ H Q, tR X.mg X.K W Γ r (m1 >>= k) σ H Q → tUn rR (tR X.mg X.K W Γ (.d t1) m1) σ H Q := by
  intro σ H Q ⟨F, s, d, p⟩
  refine ⟨F, s, d, p.bind.mono fun x px v F1 H1 e1 r1 => ?_⟩
  exact hr x v F1 H1 σ Q e1.i r1 (post.ext e1 px fun z pz u F3 H3 e3 r3 => pz u F3 H3 (e1.trans e3) (rtr_pre e1.h r3))
theorem args_of {ts : Ty} {m1 : Mx ts.den} {k : ts.den → Mx r.den} {rR : List V → Hp → VK → Prop}
    (hr : ∀ x vs F H σ Q, Same F H → rl X.K X.mg ts x vs F → (post X.mg W σ (k x) F H fun z => ∀ u F' H', Ext F H F' H' → rtr X.K X.mg r z u H F' H' → Q u H') → rR vs H Q) :
    ∀ σ H Q, tR X.mg X.K W Γ r (m1 >>= k) σ H Q → tCB rR (tA X.mg X.K W Γ ts m1) σ H Q := by
  intro σ H Q ⟨F, s, d, p⟩
  refine ⟨F, s, d, p.bind.mono fun x px v F1 H1 e1 r1 => ?_⟩
  exact hr x v F1 H1 σ Q e1.i r1 (post.ext e1 px fun z pz u F3 H3 e3 r3 => pz u F3 H3 (e1.trans e3) (rtr_pre e1.h r3))

/-! ## arguments -/
theorem ea_nil : EA X W Γ [] .nl (.ok ()) := pa_imp pa_nil fun σ H Q ⟨F, s, d, p⟩ => p [] F H (Ext.refl s) rfl
theorem ea_cons {es : List Expr} {ts : Ty} {m : Mx t.den} {ms : Mx ts.den} (ha : EM X W Γ a t m) (hr : EA X W Γ es ts ms) (hs : starEach (a :: es) X.env = (false, eval a X.env) :: starEach es X.env := by rfl) :
    EA X W Γ (a :: es) (.pr t ts) (m >>= fun x => ms >>= fun y => .ok (x, y)) := pa_imp (pa_cons ha hr hs) fun σ H Q ⟨F, s, d, p⟩ => by
  refine ⟨F, s, d, p.bind.mono fun x px v F1 H1 e1 r1 => ⟨F1, e1.i, d.mono e1.f, post.ext e1 px.bind fun y py vs F2 H2 e2 r2 => ?_⟩⟩
  exact py (v :: vs) F2 H2 (e1.trans e2) ⟨v, vs, rfl, rl_mono e2.f t x _ r1, r2⟩
theorem ea_one {m : Mx t.den} (ha : EM X W Γ a t m) (hs : starEach [a] X.env = (false, eval a X.env) :: starEach [] X.env := by rfl) : EA X W Γ [a] t m := pa_imp (pa_cons ha pa_nil hs) fun σ H Q ⟨F, s, d, p⟩ =>
  ⟨F, s, d, p.mono fun x px v F1 H1 e1 r1 => px [v] F1 H1 e1 r1⟩

/-! ## names, constants -/
theorem e_c {v : V} {x : t.den} (h : PE X e (tC v)) (hv : ∀ F, rl X.K X.mg t x [v] F) : EM X W Γ e t (.ok x) := pe_imp h fun σ H Q ⟨F, s, d, p⟩ => p v F H (Ext.refl s) (hv F)
theorem e_int {i : Int} {j : Nat} : EM X W Γ (.Constant (.int i) j pos) .int (.ok i) := e_c pe_int fun _ => rfl
theorem e_str {i : Str} {j : Nat} : EM X W Γ (.Constant (.str i) j pos) .str (.ok i) := e_c pe_str fun _ => rfl
theorem e_bool {i : Bool} {j : Nat} : EM X W Γ (.Constant (.bool i) j pos) .bool (.ok i) := e_c pe_bl fun _ => rfl
theorem e_none {j : Nat} : EM X W Γ (.Constant .none j pos) .non (.ok ()) := e_c pe_non fun _ => rfl
theorem e_noneO {j : Nat} : EM X W Γ (.Constant .none j pos) (.opt t) (.ok none) := e_c pe_non fun _ => rfl
theorem e_var (i : Nat) {n : Str} {x : t.den} (hΓ : Γ[i]? = some (.d t x)) (hp : PE X (.Name n pos) (tVar i)) : EM X W Γ (.Name n pos) t (.ok x) := pe_imp hp fun σ H Q ⟨F, s, d, p⟩ => by
  obtain ⟨ov, e1, v, rfl, r⟩ := d i _ hΓ
  exact ⟨v, e1, p v F H (Ext.refl s) r⟩
/-- an owned thing, read -/
theorem e_own (i : Nat) {n : Str} {o : Ow} {x : o.ty.den} (hΓ : Γ[i]? = some (.o o x)) (hp : PE X (.Name n pos) (tVar i)) : EM X W Γ (.Name n pos) o.ty (.ok x) := pe_imp hp fun σ H Q ⟨F, s, d, p⟩ => by
  obtain ⟨ov, e1, v, rfl, r⟩ := d i _ hΓ
  exact ⟨v, e1, p v F H (Ext.refl s) r⟩
/-- a new owned thing, as data -/
theorem e_frz {o : Ow} {m : Mx o.ty.den} (h : EO X W Γ e o m) : EM X W Γ e o.ty m := pe_imp h fun σ H Q ⟨F, s, d, p⟩ => by
  refine ⟨F, s, d, p.mono fun x px v F' H' e1 r => ?_⟩
  obtain ⟨fp, r, nd, nw⟩ := r
  let fi : Nat → List Addr := fun j => if j = 0 then fp else []
  have fin : ∀ a, a ∈ fp → frozen F' H' fi a = H' a := fun a ha => frozen_in (i := 0) (by show a ∈ (if (0 : Nat) = 0 then fp else []); rw [if_pos rfl]; exact ha)
  have fout : ∀ a, a ∉ fp → frozen F' H' fi a = F' a := fun a ha => frozen_out fun j hj => by
    have hj : a ∈ (if j = 0 then fp else []) := hj
    by_cases z : j = 0
    · rw [if_pos z] at hj; exact ha hj
    · rw [if_neg z] at hj; cases hj
  have le : Same F' (frozen F' H' fi) := fun b u eb => by
    rw [fout b fun hb => by rw [(nw b hb).1] at eb; cases eb]; exact eb
  refine px v (frozen F' H' fi) H' ⟨e1.f.trans le, e1.h, fun b u eb => ?_, fun q hq hf => ?_⟩ (ol_rl le o x _ _ (fun a ha => fin a ha) r)
  · by_cases hb : b ∈ fp
    · rw [fin b hb] at eb; exact eb
    · rw [fout b hb] at eb; exact e1.i _ _ eb
  · by_cases hb : q ∈ fp
    · exact absurd (nw q hb).2 hq
    · rw [fout q hb]; exact e1.n q hq hf
/-- a value as an option -/
def Ty.some_ : Ty → Bool
  | .int => true
  | .bool => true
  | .str => true
  | .tup _ => true
  | .vtup _ => true
  | .hl _ => true
  | .list _ => true
  | .ins _ _ _ => true
  | _ => false
theorem rl_some {K : PySem.W.Frag} {mg : Str → Option Value} {F : Hp} {x : t.den} {vs : List V} (h : t.some_ = true) (r : rl K mg t x vs F) : vs ≠ [.non] := by
  cases t with
  | int => rw [show vs = _ from r]; exact fun z => nomatch z
  | bool => rw [show vs = _ from r]; exact fun z => nomatch z
  | str => rw [show vs = _ from r]; exact fun z => nomatch z
  | tup _ => obtain ⟨_, _, e, _⟩ := r; rw [e]; exact fun z => nomatch z
  | vtup _ => obtain ⟨_, _, e, _⟩ := r; rw [e]; exact fun z => nomatch z
  | hl _ => obtain ⟨_, _, e, _⟩ := r; rw [e]; exact fun z => nomatch z
  | list _ => obtain ⟨_, _, e, _⟩ := r; rw [e]; exact fun z => nomatch z
  | ins _ _ _ => obtain ⟨_, _, _, _, e, _⟩ := r; rw [e]; exact fun z => nomatch z
  | _ => cases h
theorem e_some {m : Mx t.den} (ht : t.some_ = true) (h : EM X W Γ e t m) : EM X W Γ e (.opt t) (m >>= fun x => .ok (some x)) := pe_imp h fun σ H Q ⟨F, s, d, p⟩ =>
  ⟨F, s, d, p.bind.mono fun x px v F' H' e1 r => px v F' H' e1 ⟨rl_some ht r, r⟩⟩

/-! ## operators -/
theorem e_bin {op : Operator} {m1 : Mx t1.den} {m2 : Mx t2.den} {g : t1.den → t2.den → Option r.den} {rR : R2} (ho : OpR X (binaryOp op) rR)
    (hr : ∀ x y z, g x y = some z → ∀ v w F H Q, Same F H → rl X.K X.mg t1 x [v] F → rl X.K X.mg t2 y [w] F → (∀ u F' H', Ext F H F' H' → rtr X.K X.mg r z u H F' H' → Q u H') → rR v w H Q)
    (ha : EM X W Γ a t1 m1) (hb : EM X W Γ b t2 m2) : ER X W Γ (.BinOp a op b pos) r (m1 >>= fun x => m2 >>= fun y => ofO (g x y)) :=
  pe_imp (pe_op ho ha hb) (two_of fun x y v w F H σ Q s r1 r2 p => by
    cases e : g x y with
    | none => rw [e] at p; exact p.elim
    | some z => rw [e] at p; exact hr x y z e v w F H Q s r1 r2 p)
theorem e_cmp {op : CmpOp} {m1 : Mx t1.den} {m2 : Mx t2.den} {g : t1.den → t2.den → Option r.den} {rR : R2} (ho : OpR X (compareOp op) rR) (hm : behindInMarks op b = false)
    (hr : ∀ x y z, g x y = some z → ∀ v w F H Q, Same F H → rl X.K X.mg t1 x [v] F → rl X.K X.mg t2 y [w] F → (∀ u F' H', Ext F H F' H' → rtr X.K X.mg r z u H F' H' → Q u H') → rR v w H Q)
    (ha : EM X W Γ a t1 m1) (hb : EM X W Γ b t2 m2) : ER X W Γ (.Compare a [op] [b] pos) r (m1 >>= fun x => m2 >>= fun y => ofO (g x y)) :=
  pe_imp (pe_cmpR ho ha hb hm) (two_of fun x y v w F H σ Q s r1 r2 p => by
    cases e : g x y with
    | none => rw [e] at p; exact p.elim
    | some z => rw [e] at p; exact hr x y z e v w F H Q s r1 r2 p)
theorem e_ix {m1 : Mx t1.den} {m2 : Mx t2.den} {g : t1.den → t2.den → Option r.den} {rR : R2} (ho : IxR X rR) (hs : PlainIx b)
    (hr : ∀ x y z, g x y = some z → ∀ v w F H Q, Same F H → rl X.K X.mg t1 x [v] F → rl X.K X.mg t2 y [w] F → (∀ u F' H', Ext F H F' H' → rtr X.K X.mg r z u H F' H' → Q u H') → rR v w H Q)
    (ha : EM X W Γ a t1 m1) (hb : EM X W Γ b t2 m2) : ER X W Γ (.Subscript a b pos) r (m1 >>= fun x => m2 >>= fun y => ofO (g x y)) :=
  pe_imp (pe_ix ho ha hb hs) (two_of fun x y v w F H σ Q s r1 r2 p => by
    cases e : g x y with
    | none => rw [e] at p; exact p.elim
    | some z => rw [e] at p; exact hr x y z e v w F H Q s r1 r2 p)
end
end Gm
set_option Elab.async false
set_option linter.all false
set_option maxRecDepth 100000
set_option maxHeartbeats 4000000
namespace Gm
open PySem PySem.Spec L2

/-! ## equality of data -/
def lbeq {α : Type} (f : α → α → Bool) : List α → List α → Bool
  | [], [] => true
  | x :: xs, y :: ys => f x y && lbeq f xs ys
  | _, _ => false
def Ty.beq : (t : Ty) → t.den → t.den → Bool
  | .int, x, y => @BEq.beq Int _ x y
  | .bool, x, y => @BEq.beq Bool _ x y
  | .str, x, y => @BEq.beq Str _ x y
  | .non, _, _ => true
  | .scr, _, _ => false
  | .opt t, x, y => match x, y with
    | none, none => true
    | some a, some b => t.beq a b
    | _, _ => false
  | .tup fs, x, y => fs.beq x y
  | .vtup t, x, y => lbeq t.beq x y
  | .hl fs, x, y => fs.beq x y
  | .list t, x, y => lbeq t.beq x y
  | .pr a b, x, y => a.beq x.1 y.1 && b.beq x.2 y.2
  | .nl, _, _ => true
  | .sum _ _, _, _ => false
  | .ins _ _ _, _, _ => false
def Ty.eqok : Ty → Bool
  | .int => true
  | .bool => true
  | .str => true
  | .non => true
  | .scr => false
  | .opt t => t.some_ && t.eqok
  | .tup fs => fs.eqok
  | .vtup t => t.eqok
  | .hl fs => fs.eqok
  | .list t => t.eqok
  | .pr a b => a.eqok && b.eqok
  | .nl => true
  | .sum _ _ => false
  | .ins _ _ _ => false
def Ty.depth : Ty → Nat
  | .opt t => t.depth
  | .tup fs => fs.depth + 1
  | .vtup t => t.depth + 1
  | .hl fs => fs.depth + 1
  | .list t => t.depth + 1
  | .pr a b => a.depth + b.depth
  | _ => 0
theorem lbeq_iff {α : Type} {f : α → α → Bool} (h : ∀ x y, f x y = true ↔ x = y) : ∀ xs ys : List α, lbeq f xs ys = true ↔ xs = ys
  | [], [] => by simp [lbeq]
  | x :: xs, y :: ys => by simp [lbeq, h, lbeq_iff h xs ys]
  | [], _ :: _ => by simp [lbeq]
  | _ :: _, [] => by simp [lbeq]
theorem beq_iff : ∀ (t : Ty), t.eqok = true → ∀ x y : t.den, t.beq x y = true ↔ x = y := by
  intro t
  induction t with
  | int => intro _ x y; exact beq_iff_eq
  | bool => intro _ x y; exact beq_iff_eq
  | str => intro _ x y; exact beq_iff_eq
  | non => intro _ x y; exact ⟨fun _ => rfl, fun _ => rfl⟩
  | opt t ih =>
    intro h x y
    have h' := (Bool.and_eq_true _ _).mp (show (t.some_ && t.eqok) = true from h)
    cases x with
    | none => cases y with
      | none => exact ⟨fun _ => rfl, fun _ => rfl⟩
      | some b => exact ⟨fun z => (nomatch z), fun z => (nomatch z)⟩
    | some a => cases y with
      | none => exact ⟨fun z => (nomatch z), fun z => (nomatch z)⟩
      | some b => exact (ih h'.2 a b).trans ⟨fun z => congrArg some z, fun z => Option.some.inj z⟩
  | tup fs ih => intro h x y; exact ih h x y
  | vtup t ih => intro h x y; exact lbeq_iff (ih h) x y
  | hl fs ih => intro h x y; exact ih h x y
  | list t ih => intro h x y; exact lbeq_iff (ih h) x y
  | pr a b iha ihb =>
    intro h x y
    have h' := (Bool.and_eq_true _ _).mp (show (a.eqok && b.eqok) = true from h)
    obtain ⟨x1, x2⟩ := x
    obtain ⟨y1, y2⟩ := y
    show (a.beq x1 y1 && b.beq x2 y2) = true ↔ _
    rw [Bool.and_eq_true, iha h'.1, ihb h'.2, Prod.mk.injEq]
  | nl => intro _ x y; exact ⟨fun _ => rfl, fun _ => rfl⟩
  | scr => intro h; cases h
  | sum a b => intro h; cases h
  | ins c ns fs => intro h; cases h
theorem beq_dec {t : Ty} (h : t.eqok = true) [d : DecidableEq t.den] (x y : t.den) : t.beq x y = decide (x = y) := by
  rw [Bool.eq_iff_iff, beq_iff t h, decide_eq_true_iff]

theorem Vals.one {v : V} {us : List Value} (r : Vals [v] us) : ∃ u, us = [u] ∧ RelV v u := by
  cases r with
  | cons a b => cases b; exact ⟨_, rfl, a⟩
theorem rl_one {K : PySem.W.Frag} {mg : Str → Option Value} {F : Hp} {t : Ty} {x : t.den} {vs : List V} (h : t.some_ = true) (r : rl K mg t x vs F) : ∃ v, vs = [v] := by
  cases t with
  | int => exact ⟨_, r⟩
  | bool => exact ⟨_, r⟩
  | str => exact ⟨_, r⟩
  | tup _ => obtain ⟨_, _, e, _⟩ := r; exact ⟨_, e⟩
  | vtup _ => obtain ⟨_, _, e, _⟩ := r; exact ⟨_, e⟩
  | hl _ => obtain ⟨_, _, e, _⟩ := r; exact ⟨_, e⟩
  | list _ => obtain ⟨_, _, e, _⟩ := r; exact ⟨_, e⟩
  | ins _ _ _ => obtain ⟨_, _, _, _, e, _⟩ := r; exact ⟨_, e⟩
  | _ => cases h

section
variable {X : Cx} {pins : List (Addr × Obj)} {σ : L2.St} {F H : Hp} {s : Shared} {mg : Str → Option Value}
theorem sqT_same {K : PySem.W.Frag} {F H : Hp} {a : Addr} {ws : List V} (h : Same F H) (q : SqT K F a ws) : SqT K H a ws := sqT_mono (fun b o z _ => h b o z) q
theorem all2.inj {α : Type} {R : α → V → Prop} (h : ∀ x y v, R x v → R y v → x = y) : ∀ {xs ys : List α} {vs : List V}, all2 R xs vs → all2 R ys vs → xs = ys
  | [], [], [], _, _ => rfl
  | _ :: _, _ :: _, _ :: _, ⟨a, b⟩, ⟨c, d⟩ => by rw [h _ _ _ a c, all2.inj h b d]
  | [], _, _ :: _, z, _ => z.elim
  | _ :: _, _, [], z, _ => z.elim
  | [], _ :: _, [], _, z => z.elim
  | _ :: _, [], _ :: _, _, z => z.elim
theorem rl_inj (I : Inv X pins σ H s) (hs : Same F H) : ∀ (t : Ty), t.eqok = true → ∀ (x y : t.den) (vs : List V), rl X.K mg t x vs F → rl X.K mg t y vs F → x = y := by
  intro t
  induction t with
  | int => intro _ x y vs p q; rw [show vs = _ from p] at q; exact V.int.inj (List.cons.inj q).1
  | bool => intro _ x y vs p q; rw [show vs = _ from p] at q; exact V.bl.inj (List.cons.inj q).1
  | str => intro _ x y vs p q; rw [show vs = _ from p] at q; exact V.str.inj (List.cons.inj q).1
  | non => intro _ x y vs p q; rfl
  | opt t ih =>
    intro h x y vs p q
    have h' := (Bool.and_eq_true _ _).mp (show (t.some_ && t.eqok) = true from h)
    cases x with
    | none => cases y with
      | none => rfl
      | some b => exact absurd p q.1
    | some a => cases y with
      | none => exact absurd q p.1
      | some b => exact congrArg some (ih h'.2 a b vs p.2 q.2)
  | tup fs ih =>
    intro h x y vs p q
    obtain ⟨a, ws, e, s1, r1⟩ := p
    obtain ⟨b, zs, e', s2, r2⟩ := q
    rw [e] at e'; cases e'
    cases I.tuple_inj (sqT_same hs s1) (sqT_same hs s2)
    exact ih h x y _ r1 r2
  | vtup t ih =>
    intro h x y vs p q
    obtain ⟨a, ws, e, s1, r1⟩ := p
    obtain ⟨b, zs, e', s2, r2⟩ := q
    rw [e] at e'; cases e'
    cases I.tuple_inj (sqT_same hs s1) (sqT_same hs s2)
    exact all2.inj (fun x y v => ih h x y [v]) r1 r2
  | hl fs ih =>
    intro h x y vs p q
    obtain ⟨a, ws, e, s1, r1⟩ := p
    obtain ⟨b, zs, e', s2, r2⟩ := q
    rw [e] at e'; cases e'
    cases I.list_inj (SqL.of (hs _ _ s1)) (SqL.of (hs _ _ s2))
    exact ih h x y _ r1 r2
  | list t ih =>
    intro h x y vs p q
    obtain ⟨a, ws, e, s1, r1⟩ := p
    obtain ⟨b, zs, e', s2, r2⟩ := q
    rw [e] at e'; cases e'
    cases I.list_inj (SqL.of (hs _ _ s1)) (SqL.of (hs _ _ s2))
    exact all2.inj (fun x y v => ih h x y [v]) r1 r2
  | pr a b iha ihb =>
    intro h x y vs p q
    have h' := (Bool.and_eq_true _ _).mp (show (a.eqok && b.eqok) = true from h)
    obtain ⟨v, r, e, p1, p2⟩ := p
    obtain ⟨w, r', e', q1, q2⟩ := q
    rw [e] at e'; cases e'
    exact Prod.ext (iha h'.1 _ _ _ p1 q1) (ihb h'.2 _ _ _ p2 q2)
  | nl => intro _ x y vs p q; rfl
  | scr => intro h; cases h
  | sum a b => intro h; cases h
  | ins c ns fs => intro h; cases h

/-- pointwise answers of == -/
def EqL (A : Around) (s : Shared) (us ws : List Value) (b : Bool) : Prop := ∃ e : Nat → Bool, us.length = ws.length ∧ (∀ j u w, us[j]? = some u → ws[j]? = some w → SeqAt.EqAt A s u w (e j)) ∧ b = (List.range us.length).all e
theorem EqL.single {A : Around} {u w : Value} {b : Bool} (h : SeqAt.EqAt A s u w b) : EqL A s [u] [w] b := by
  refine ⟨fun _ => b, rfl, fun j u' w' e1 e2 => ?_, by simp⟩
  cases j with
  | zero => simp at e1 e2; subst e1; subst e2; exact h
  | succ j => simp at e1
theorem range_all_succ (n : Nat) (e : Nat → Bool) : (List.range (n + 1)).all e = (e 0 && (List.range n).all fun j => e (j + 1)) := by
  rw [List.range_succ_eq_map, List.all_cons, List.all_map]; rfl
theorem EqL.cons {A : Around} {u w : Value} {us ws : List Value} {b c : Bool} (h : SeqAt.EqAt A s u w b) (t : EqL A s us ws c) : EqL A s (u :: us) (w :: ws) (b && c) := by
  obtain ⟨e, h1, h2, h3⟩ := t
  refine ⟨fun j => match j with | 0 => b | j + 1 => e j, congrArg (· + 1) h1, fun j u' w' e1 e2 => ?_, ?_⟩
  · cases j with
    | zero => simp at e1 e2; subst e1; subst e2; exact h
    | succ j => exact h2 j u' w' (by simpa using e1) (by simpa using e2)
  · rw [List.length_cons, range_all_succ, h3]
theorem EqL.one {A : Around} {u w : Value} {b : Bool} (h : EqL A s [u] [w] b) : SeqAt.EqAt A s u w b := by
  obtain ⟨e, h1, h2, h3⟩ := h
  have := h2 0 u w rfl rfl
  rw [h3]; simpa using this
theorem rc_lists {A : Around} {a b : Addr} {ws zs : List V} {c : Bool} (hu : A.units < cLine) (I : Inv X pins σ H s) (h1 : SqL X.K H a ws) (h2 : SqL X.K H b zs)
    (h : ws.length = zs.length → ∀ us us', Vals ws us → Vals zs us' → EqL A.in1 s us us' c) (hn : ws.length ≠ zs.length → c = false) : SeqAt.RcAt A s (.ref a) (.ref b) c := by
  obtain ⟨its, r1, p1, z1⟩ := I.list h1
  obtain ⟨its', r2, p2, z2⟩ := I.list h2
  by_cases hl : ws.length = zs.length
  · obtain ⟨e, e1, e2, e3⟩ := h hl its its' r1 r2
    rw [e3]
    have := SeqAt.RcAt.lists (e := e) p1.isList p2.isList (by simpa using e1) hu fun j h1 h2 => e2 j _ _ (by simp at h1; simp [h1]) (by simp at h2; simp [h2])
    simpa using this
  · rw [hn hl]
    refine SeqAt.RcAt.lists_lengths p1.isList p2.isList ?_ hu
    rw [bne_iff_ne]
    simp only [List.size_toArray]
    rw [← r1.length, ← r2.length]; exact hl
theorem rc_tuples {A : Around} {a b : Addr} {ws zs : List V} {c : Bool} (hu : A.units < cLine) (I : Inv X pins σ H s) (h1 : SqT X.K H a ws) (h2 : SqT X.K H b zs)
    (h : ws.length = zs.length → ∀ us us', Vals ws us → Vals zs us' → EqL A.in1 s us us' c) (hn : ws.length ≠ zs.length → c = false)
    (hall : ∀ us us', Vals ws us → Vals zs us' → ∃ e : Nat → Bool, ∀ j u w, us[j]? = some u → us'[j]? = some w → SeqAt.EqAt A.in1 s u w (e j)) : SeqAt.RcAt A s (.ref a) (.ref b) c := by
  obtain ⟨its, r1, p1, z1⟩ := I.tuple h1
  obtain ⟨its', r2, p2, z2⟩ := I.tuple h2
  by_cases hl : ws.length = zs.length
  · obtain ⟨e, e1, e2, e3⟩ := h hl its its' r1 r2
    have := SeqAt.RcAt.tuples (e := e) (show s.heap.IsTuple a its.toArray from p1) (show s.heap.IsTuple b its'.toArray from p2) hu fun j h1 h2 => e2 j _ _ (by simp at h1; simp [h1]) (by simp at h2; simp [h2])
    rw [e3]
    simpa [e1] using this
  · obtain ⟨e, he⟩ := hall its its' r1 r2
    have := SeqAt.RcAt.tuples (e := e) (show s.heap.IsTuple a its.toArray from p1) (show s.heap.IsTuple b its'.toArray from p2) hu fun j h1 h2 => he j _ _ (by simp at h1; simp [h1]) (by simp at h2; simp [h2])
    rw [hn hl]
    have hl' : its.length ≠ its'.length := by rw [← r1.length, ← r2.length]; exact hl
    simp only [List.size_toArray] at this
    rw [show (its.length == its'.length) = false from by simp [hl'], Bool.and_false] at this
    exact this
theorem none_eq {A : Around} {u : Value} {w : V} (hu : A.units < cLine) (I : Inv X pins σ H s) (hs : Same F H) {t : Ty} {x : t.den} (h1 : t.some_ = true) (h2 : t.eqok = true) (r : rl X.K mg t x [w] F) (ru : RelV w u) :
    SeqAt.EqAt A s .none u false ∧ SeqAt.EqAt A s u .none false := by
  cases t with
  | int => cases (List.cons.inj (show [w] = _ from r)).1; obtain ⟨t, rfl⟩ := ru; exact ⟨.none_int _ _, .int_none _ _⟩
  | bool => cases (List.cons.inj (show [w] = _ from r)).1; cases ru; exact ⟨.none_bool _, .bool_none _⟩
  | str => cases (List.cons.inj (show [w] = _ from r)).1; obtain ⟨t, rfl⟩ := ru; exact ⟨.none_str _ _, .str_none _ _⟩
  | tup fs =>
    obtain ⟨a, ws, e, s1, _⟩ := r
    cases (List.cons.inj e).1; cases ru
    obtain ⟨its, _, p, _⟩ := I.tuple (sqT_same hs s1)
    exact ⟨.none_tuple (show s.heap.IsTuple a its.toArray from p) hu, .tuple_none (show s.heap.IsTuple a its.toArray from p) hu⟩
  | vtup t =>
    obtain ⟨a, ws, e, s1, _⟩ := r
    cases (List.cons.inj e).1; cases ru
    obtain ⟨its, _, p, _⟩ := I.tuple (sqT_same hs s1)
    exact ⟨.none_tuple (show s.heap.IsTuple a its.toArray from p) hu, .tuple_none (show s.heap.IsTuple a its.toArray from p) hu⟩
  | hl fs =>
    obtain ⟨a, ws, e, s1, _⟩ := r
    cases (List.cons.inj e).1; cases ru
    obtain ⟨its, _, p, _⟩ := I.list (SqL.of (hs _ _ s1))
    exact ⟨.none_list p.isList hu, .list_none p.isList hu⟩
  | list t =>
    obtain ⟨a, ws, e, s1, _⟩ := r
    cases (List.cons.inj e).1; cases ru
    obtain ⟨its, _, p, _⟩ := I.list (SqL.of (hs _ _ s1))
    exact ⟨.none_list p.isList hu, .list_none p.isList hu⟩
  | ins _ _ _ => cases h2
  | _ => cases h1
theorem eqL_all {α : Type} {A : Around} {f : α → α → Bool} {R : α → V → Prop} (h : ∀ x y v w u u', R x v → R y w → RelV v u → RelV w u' → SeqAt.EqAt A s u u' (f x y)) :
    ∀ {xs ys : List α} {vs ws : List V} {us us' : List Value}, all2 R xs vs → all2 R ys ws → Vals vs us → Vals ws us' → vs.length = ws.length → EqL A s us us' (lbeq f xs ys)
  | [], [], [], [], _, _, _, _, .nil, .nil, _ => ⟨fun _ => true, rfl, fun j u w e => by simp at e, rfl⟩
  | _ :: _, _ :: _, _ :: _, _ :: _, _, _, ⟨a, b⟩, ⟨c, d⟩, .cons p q, .cons p' q', hl => (EqL.single (h _ _ _ _ _ _ a c p p')).one |> fun z => EqL.cons z (eqL_all h b d q q' (Nat.succ.inj hl))
  | [], _ :: _, [], _ :: _, _, _, _, _, _, _, hl => by cases hl
  | _ :: _, [], _ :: _, [], _, _, _, _, _, _, hl => by cases hl
  | [], _, _ :: _, _, _, _, z, _, _, _, _ => z.elim
  | _ :: _, _, [], _, _, _, z, _, _, _, _ => z.elim
  | _, [], _, _ :: _, _, _, _, z, _, _, _ => z.elim
  | _, _ :: _, _, [], _, _, _, z, _, _, _ => z.elim
theorem eqL_pts {α : Type} {A : Around} {f : α → α → Bool} {R : α → V → Prop} (h : ∀ x y v w u u', R x v → R y w → RelV v u → RelV w u' → SeqAt.EqAt A s u u' (f x y)) :
    ∀ {xs ys : List α} {vs ws : List V} {us us' : List Value}, all2 R xs vs → all2 R ys ws → Vals vs us → Vals ws us' → ∃ e : Nat → Bool, ∀ j u w, us[j]? = some u → us'[j]? = some w → SeqAt.EqAt A s u w (e j)
  | [], _, [], _, _, _, _, _, .nil, _ => ⟨fun _ => true, fun j u w e => by simp at e⟩
  | _, [], _, [], _, _, _, _, _, .nil => ⟨fun _ => true, fun j u w _ e => by simp at e⟩
  | x :: _, y :: _, _ :: _, _ :: _, _, _, ⟨a, b⟩, ⟨c, d⟩, .cons p q, .cons p' q' => by
    obtain ⟨e, he⟩ := eqL_pts h b d q q'
    refine ⟨fun j => match j with | 0 => f x y | j + 1 => e j, fun j u w e1 e2 => ?_⟩
    cases j with
    | zero => simp at e1 e2; subst e1; subst e2; exact h _ _ _ _ _ _ a c p p'
    | succ j => exact he j u w (by simpa using e1) (by simpa using e2)
  | [], _, _ :: _, _, _, _, z, _, _, _ => z.elim
  | _ :: _, _, [], _, _, _, z, _, _, _ => z.elim
  | _, [], _, _ :: _, _, _, _, z, _, _ => z.elim
  | _, _ :: _, _, [], _, _, _, z, _, _ => z.elim
theorem lbeq_len {α : Type} {f : α → α → Bool} : ∀ {xs ys : List α}, xs.length ≠ ys.length → lbeq f xs ys = false
  | [], [], h => absurd rfl h
  | [], _ :: _, _ => rfl
  | _ :: _, [], _ => rfl
  | x :: xs, y :: ys, h => by
    show (f x y && lbeq f xs ys) = false
    rw [lbeq_len fun z => h (congrArg (· + 1) z), Bool.and_false]
theorem eq_of_rc {A : Around} {a b : Addr} {c : Bool} (I : Inv X pins σ H s) (h : SeqAt.RcAt A s (.ref a) (.ref b) c) (hc : a = b → c = true) : SeqAt.EqAt A s (.ref a) (.ref b) c := by
  by_cases e : a = b
  · rw [hc e]; subst e; exact .same _
  · exact .of_refs e h
theorem eqL_ty (I : Inv X pins σ H s) (hs : Same F H) : ∀ (t : Ty), t.eqok = true → ∀ (A : Around), A.units + t.depth < cLine → ∀ (x y : t.den) (vs ws : List V), rl X.K mg t x vs F → rl X.K mg t y ws F →
    ∀ us us', Vals vs us → Vals ws us' → EqL A s us us' (t.beq x y) := by
  intro t
  induction t with
  | int =>
    intro _ A _ x y vs ws p q us us' r r'
    cases (show vs = _ from p); cases (show ws = _ from q)
    obtain ⟨u, rfl, t, rfl⟩ := Vals.one r
    obtain ⟨u', rfl, t', rfl⟩ := Vals.one r'
    exact EqL.single (.int_int _ _ _ _)
  | bool =>
    intro _ A _ x y vs ws p q us us' r r'
    cases (show vs = _ from p); cases (show ws = _ from q)
    obtain ⟨u, rfl, h1⟩ := Vals.one r
    obtain ⟨u', rfl, h2⟩ := Vals.one r'
    cases h1; cases h2
    exact EqL.single (.bool_bool _ _)
  | str =>
    intro _ A _ x y vs ws p q us us' r r'
    cases (show vs = _ from p); cases (show ws = _ from q)
    obtain ⟨u, rfl, t, rfl⟩ := Vals.one r
    obtain ⟨u', rfl, t', rfl⟩ := Vals.one r'
    exact EqL.single (.str_str _ _ _ _)
  | non =>
    intro _ A _ x y vs ws p q us us' r r'
    cases (show vs = _ from p); cases (show ws = _ from q)
    obtain ⟨u, rfl, h1⟩ := Vals.one r
    obtain ⟨u', rfl, h2⟩ := Vals.one r'
    cases h1; cases h2
    exact EqL.single (.same _)
  | opt t ih =>
    intro h A hu x y vs ws p q us us' r r'
    have h' := (Bool.and_eq_true _ _).mp (show (t.some_ && t.eqok) = true from h)
    have hu' : A.units < cLine := Nat.lt_of_le_of_lt (Nat.le_add_right _ _) hu
    cases x with
    | none =>
      cases (show vs = _ from p)
      obtain ⟨u, rfl, h1⟩ := Vals.one r
      cases h1
      cases y with
      | none =>
        cases (show ws = _ from q)
        obtain ⟨u', rfl, h2⟩ := Vals.one r'
        cases h2
        exact EqL.single (.same _)
      | some b =>
        obtain ⟨w, rfl⟩ := rl_one h'.1 q.2
        obtain ⟨u', rfl, h2⟩ := Vals.one r'
        exact EqL.single (none_eq hu' I hs h'.1 h'.2 q.2 h2).1
    | some a =>
      cases y with
      | none =>
        cases (show ws = _ from q)
        obtain ⟨u', rfl, h2⟩ := Vals.one r'
        cases h2
        obtain ⟨w, rfl⟩ := rl_one h'.1 p.2
        obtain ⟨u, rfl, h1⟩ := Vals.one r
        exact EqL.single (none_eq hu' I hs h'.1 h'.2 p.2 h1).2
      | some b => exact ih h'.2 A hu a b vs ws p.2 q.2 us us' r r'
  | tup fs ih =>
    intro h A hu x y vs ws p q us us' r r'
    have hp := p
    have hq := q
    obtain ⟨a, zs, rfl, s1, r1⟩ := p
    obtain ⟨b, zs', rfl, s2, r2⟩ := q
    obtain ⟨u, rfl, h1⟩ := Vals.one r
    obtain ⟨u', rfl, h2⟩ := Vals.one r'
    cases h1; cases h2
    have hu' : A.units + fs.depth + 1 < cLine := hu
    have go : ∀ us us', Vals zs us → Vals zs' us' → EqL A.in1 s us us' (fs.beq x y) := fun us us' v v' => ih h A.in1 (by show A.units + 1 + fs.depth < cLine; omega) x y zs zs' r1 r2 us us' v v'
    refine EqL.single (eq_of_rc I (rc_tuples (by omega) I (sqT_same hs s1) (sqT_same hs s2) (fun _ => go) (fun hn => ?_) fun us us' v v' => ?_) fun e => ?_)
    · obtain ⟨its, v1, _, _⟩ := I.tuple (sqT_same hs s1)
      obtain ⟨its', v2, _, _⟩ := I.tuple (sqT_same hs s2)
      obtain ⟨_, e1, _⟩ := go its its' v1 v2
      exact absurd (by rw [v1.length, v2.length]; exact e1) hn
    · obtain ⟨e, _, e2, _⟩ := go us us' v v'
      exact ⟨e, e2⟩
    · subst e
      exact (beq_iff _ h x y).mpr (rl_inj I hs (.tup fs) h x y _ hp hq)
  | vtup t ih =>
    intro h A hu x y vs ws p q us us' r r'
    have hp := p
    have hq := q
    obtain ⟨a, zs, rfl, s1, r1⟩ := p
    obtain ⟨b, zs', rfl, s2, r2⟩ := q
    obtain ⟨u, rfl, h1⟩ := Vals.one r
    obtain ⟨u', rfl, h2⟩ := Vals.one r'
    cases h1; cases h2
    have hu' : A.units + t.depth + 1 < cLine := hu
    have pt : ∀ x y v w u u', rl X.K mg t x [v] F → rl X.K mg t y [w] F → RelV v u → RelV w u' → SeqAt.EqAt A.in1 s u u' (t.beq x y) := fun x y v w u u' a b c d =>
      (ih h A.in1 (by show A.units + 1 + t.depth < cLine; omega) x y [v] [w] a b [u] [u'] (.cons c .nil) (.cons d .nil)).one
    refine EqL.single (eq_of_rc I (rc_tuples (by omega) I (sqT_same hs s1) (sqT_same hs s2) (fun hl us us' v v' => eqL_all (f := t.beq) pt r1 r2 v v' hl) (fun hn => lbeq_len (by rw [r1.len, r2.len]; exact hn)) fun us us' v v' => eqL_pts (f := t.beq) pt r1 r2 v v') fun e => ?_)
    subst e
    exact (beq_iff (.vtup t) h x y).mpr (rl_inj I hs (.vtup t) h x y _ hp hq)
  | hl fs ih =>
    intro h A hu x y vs ws p q us us' r r'
    have hp := p
    have hq := q
    obtain ⟨a, zs, rfl, s1, r1⟩ := p
    obtain ⟨b, zs', rfl, s2, r2⟩ := q
    obtain ⟨u, rfl, h1⟩ := Vals.one r
    obtain ⟨u', rfl, h2⟩ := Vals.one r'
    cases h1; cases h2
    have hu' : A.units + fs.depth + 1 < cLine := hu
    have go : ∀ us us', Vals zs us → Vals zs' us' → EqL A.in1 s us us' (fs.beq x y) := fun us us' v v' => ih h A.in1 (by show A.units + 1 + fs.depth < cLine; omega) x y zs zs' r1 r2 us us' v v'
    refine EqL.single (eq_of_rc I (rc_lists (by omega) I (SqL.of (hs _ _ s1)) (SqL.of (hs _ _ s2)) (fun _ => go) (fun hn => ?_)) fun e => ?_)
    · obtain ⟨its, v1, _, _⟩ := I.list (SqL.of (hs _ _ s1))
      obtain ⟨its', v2, _, _⟩ := I.list (SqL.of (hs _ _ s2))
      obtain ⟨_, e1, _⟩ := go its its' v1 v2
      exact absurd (by rw [v1.length, v2.length]; exact e1) hn
    · subst e
      exact (beq_iff _ h x y).mpr (rl_inj I hs (.hl fs) h x y _ hp hq)
  | list t ih =>
    intro h A hu x y vs ws p q us us' r r'
    have hp := p
    have hq := q
    obtain ⟨a, zs, rfl, s1, r1⟩ := p
    obtain ⟨b, zs', rfl, s2, r2⟩ := q
    obtain ⟨u, rfl, h1⟩ := Vals.one r
    obtain ⟨u', rfl, h2⟩ := Vals.one r'
    cases h1; cases h2
    have hu' : A.units + t.depth + 1 < cLine := hu
    have pt : ∀ x y v w u u', rl X.K mg t x [v] F → rl X.K mg t y [w] F → RelV v u → RelV w u' → SeqAt.EqAt A.in1 s u u' (t.beq x y) := fun x y v w u u' a b c d =>
      (ih h A.in1 (by show A.units + 1 + t.depth < cLine; omega) x y [v] [w] a b [u] [u'] (.cons c .nil) (.cons d .nil)).one
    refine EqL.single (eq_of_rc I (rc_lists (by omega) I (SqL.of (hs _ _ s1)) (SqL.of (hs _ _ s2)) (fun hl us us' v v' => eqL_all (f := t.beq) pt r1 r2 v v' hl) (fun hn => lbeq_len (by rw [r1.len, r2.len]; exact hn))) fun e => ?_)
    subst e
    exact (beq_iff (.list t) h x y).mpr (rl_inj I hs (.list t) h x y _ hp hq)
  | pr a b iha ihb =>
    intro h A hu x y vs ws p q us us' r r'
    have h' := (Bool.and_eq_true _ _).mp (show (a.eqok && b.eqok) = true from h)
    have hu' : A.units + (a.depth + b.depth) < cLine := hu
    obtain ⟨v, r1, rfl, p1, p2⟩ := p
    obtain ⟨w, r2, rfl, q1, q2⟩ := q
    cases r with
    | cons c d =>
      cases r' with
      | cons c' d' =>
        exact EqL.cons (iha h'.1 A (by omega) x.1 y.1 [v] [w] p1 q1 _ _ (.cons c .nil) (.cons c' .nil)).one (ihb h'.2 A (by omega) x.2 y.2 r1 r2 p2 q2 _ _ d d')
  | nl =>
    intro _ A _ x y vs ws p q us us' r r'
    cases (show vs = _ from p); cases (show ws = _ from q)
    cases r; cases r'
    exact ⟨fun _ => true, rfl, fun j u w e => by simp at e, rfl⟩
  | scr => intro h; cases h
  | sum a b => intro h; cases h
  | ins c ns fs => intro h; cases h
theorem rc_ty (I : Inv X pins σ H s) (hs : Same F H) {t : Ty} (h : t.eqok = true) {A : Around} (hu : A.units + t.depth < cLine) {x y : t.den} {a b : Addr} (p : rl X.K mg t x [.ref a] F) (q : rl X.K mg t y [.ref b] F) : SeqAt.RcAt A s (.ref a) (.ref b) (t.beq x y) := by
  cases t with
  | int => cases (show [V.ref a] = _ from p)
  | bool => cases (show [V.ref a] = _ from p)
  | str => cases (show [V.ref a] = _ from p)
  | non => cases (show [V.ref a] = _ from p)
  | nl => cases (show [V.ref a] = _ from p)
  | scr => cases h
  | sum _ _ => cases h
  | ins _ _ _ => cases h
  | opt t =>
    have h' := (Bool.and_eq_true _ _).mp (show (t.some_ && t.eqok) = true from h)
    cases x with
    | none => cases (show [V.ref a] = _ from p)
    | some x =>
      cases y with
      | none => cases (show [V.ref b] = _ from q)
      | some y => exact rc_ty I hs (t := t) h'.2 hu p.2 q.2
  | pr t u =>
    obtain ⟨v, r, e1, p1, p2⟩ := p
    obtain ⟨w, r', e2, q1, q2⟩ := q
    cases e1; cases e2
    have h' := (Bool.and_eq_true _ _).mp (show (t.eqok && u.eqok) = true from h)
    have hu' : A.units + (t.depth + u.depth) < cLine := hu
    have c1 := rc_ty I hs (t := t) h'.1 (A := A) (by omega) p1 q1
    obtain ⟨e, _, _, e3⟩ := eqL_ty I hs u h'.2 A (by omega) x.2 y.2 [] [] p2 q2 [] [] .nil .nil
    have e4 : u.beq x.2 y.2 = true := e3
    show SeqAt.RcAt A s (.ref a) (.ref b) (t.beq x.1 y.1 && u.beq x.2 y.2)
    rw [e4, Bool.and_true]; exact c1
  | tup fs =>
    obtain ⟨a', zs, e1, s1, r1⟩ := p
    obtain ⟨b', zs', e2, s2, r2⟩ := q
    cases e1; cases e2
    have hu' : A.units + fs.depth + 1 < cLine := hu
    have go : ∀ us us', Vals zs us → Vals zs' us' → EqL A.in1 s us us' (fs.beq x y) := fun us us' v v' => eqL_ty I hs fs h A.in1 (by show A.units + 1 + fs.depth < cLine; omega) x y zs zs' r1 r2 us us' v v'
    refine rc_tuples (by omega) I (sqT_same hs s1) (sqT_same hs s2) (fun _ => go) (fun hn => ?_) fun us us' v v' => ?_
    · obtain ⟨its, v1, _, _⟩ := I.tuple (sqT_same hs s1)
      obtain ⟨its', v2, _, _⟩ := I.tuple (sqT_same hs s2)
      obtain ⟨_, e1, _⟩ := go its its' v1 v2
      exact absurd (by rw [v1.length, v2.length]; exact e1) hn
    · obtain ⟨e, _, e2, _⟩ := go us us' v v'
      exact ⟨e, e2⟩
  | vtup t =>
    obtain ⟨a', zs, e1, s1, r1⟩ := p
    obtain ⟨b', zs', e2, s2, r2⟩ := q
    cases e1; cases e2
    have hu' : A.units + t.depth + 1 < cLine := hu
    have pt : ∀ x y v w u u', rl X.K mg t x [v] F → rl X.K mg t y [w] F → RelV v u → RelV w u' → SeqAt.EqAt A.in1 s u u' (t.beq x y) := fun x y v w u u' a b c d =>
      (eqL_ty I hs t h A.in1 (by show A.units + 1 + t.depth < cLine; omega) x y [v] [w] a b [u] [u'] (.cons c .nil) (.cons d .nil)).one
    exact rc_tuples (by omega) I (sqT_same hs s1) (sqT_same hs s2) (fun hl us us' v v' => eqL_all (f := t.beq) pt r1 r2 v v' hl) (fun hn => lbeq_len (by rw [r1.len, r2.len]; exact hn)) fun us us' v v' => eqL_pts (f := t.beq) pt r1 r2 v v'
  | hl fs =>
    obtain ⟨a', zs, e1, s1, r1⟩ := p
    obtain ⟨b', zs', e2, s2, r2⟩ := q
    cases e1; cases e2
    have hu' : A.units + fs.depth + 1 < cLine := hu
    have go : ∀ us us', Vals zs us → Vals zs' us' → EqL A.in1 s us us' (fs.beq x y) := fun us us' v v' => eqL_ty I hs fs h A.in1 (by show A.units + 1 + fs.depth < cLine; omega) x y zs zs' r1 r2 us us' v v'
    refine rc_lists (by omega) I (SqL.of (hs _ _ s1)) (SqL.of (hs _ _ s2)) (fun _ => go) (fun hn => ?_)
    obtain ⟨its, v1, _, _⟩ := I.list (SqL.of (hs _ _ s1))
    obtain ⟨its', v2, _, _⟩ := I.list (SqL.of (hs _ _ s2))
    obtain ⟨_, e1, _⟩ := go its its' v1 v2
    exact absurd (by rw [v1.length, v2.length]; exact e1) hn
  | list t =>
    obtain ⟨a', zs, e1, s1, r1⟩ := p
    obtain ⟨b', zs', e2, s2, r2⟩ := q
    cases e1; cases e2
    have hu' : A.units + t.depth + 1 < cLine := hu
    have pt : ∀ x y v w u u', rl X.K mg t x [v] F → rl X.K mg t y [w] F → RelV v u → RelV w u' → SeqAt.EqAt A.in1 s u u' (t.beq x y) := fun x y v w u u' a b c d =>
      (eqL_ty I hs t h A.in1 (by show A.units + 1 + t.depth < cLine; omega) x y [v] [w] a b [u] [u'] (.cons c .nil) (.cons d .nil)).one
    exact rc_lists (by omega) I (SqL.of (hs _ _ s1)) (SqL.of (hs _ _ s2)) (fun hl us us' v v' => eqL_all (f := t.beq) pt r1 r2 v v' hl) (fun hn => lbeq_len (by rw [r1.len, r2.len]; exact hn))
end
end Gm
set_option Elab.async false
set_option linter.all false
set_option maxRecDepth 100000
set_option maxHeartbeats 4000000
namespace Gm
open PySem PySem.Spec L2
section
variable {X : Cx} {pins : List (Addr × Obj)} {σ : L2.St} {F H : Hp} {s : Shared} {mg : Str → Option Value}
theorem rcn_lists {A : Around} {a b : Addr} {ws zs : List V} {c : Bool} (hu : A.units < cLine) (I : Inv X pins σ H s) (h1 : SqL X.K H a ws) (h2 : SqL X.K H b zs)
    (h : ws.length = zs.length → ∀ us us', Vals ws us → Vals zs us' → EqL A.in1 s us us' c) (hn : ws.length ≠ zs.length → c = false) : SeqAt.RcNeAt A s (.ref a) (.ref b) (!c) := by
  obtain ⟨its, r1, p1, z1⟩ := I.list h1
  obtain ⟨its', r2, p2, z2⟩ := I.list h2
  by_cases hl : ws.length = zs.length
  · obtain ⟨e, e1, e2, e3⟩ := h hl its its' r1 r2
    rw [e3]
    have := SeqAt.RcNeAt.lists (e := e) p1.isList p2.isList (by simpa using e1) hu fun j h1 h2 => e2 j _ _ (by simp at h1; simp [h1]) (by simp at h2; simp [h2])
    simpa using this
  · rw [hn hl]
    refine SeqAt.RcNeAt.lists_lengths p1.isList p2.isList ?_ hu
    rw [bne_iff_ne]
    simp only [List.size_toArray]
    rw [← r1.length, ← r2.length]; exact hl
theorem rcn_tuples {A : Around} {a b : Addr} {ws zs : List V} {c : Bool} (hu : A.units < cLine) (I : Inv X pins σ H s) (h1 : SqT X.K H a ws) (h2 : SqT X.K H b zs)
    (h : ws.length = zs.length → ∀ us us', Vals ws us → Vals zs us' → EqL A.in1 s us us' c) (hn : ws.length ≠ zs.length → c = false)
    (hall : ∀ us us', Vals ws us → Vals zs us' → ∃ e : Nat → Bool, ∀ j u w, us[j]? = some u → us'[j]? = some w → SeqAt.EqAt A.in1 s u w (e j)) : SeqAt.RcNeAt A s (.ref a) (.ref b) (!c) := by
  obtain ⟨its, r1, p1, z1⟩ := I.tuple h1
  obtain ⟨its', r2, p2, z2⟩ := I.tuple h2
  by_cases hl : ws.length = zs.length
  · obtain ⟨e, e1, e2, e3⟩ := h hl its its' r1 r2
    have := SeqAt.RcNeAt.tuples (e := e) (show s.heap.IsTuple a its.toArray from p1) (show s.heap.IsTuple b its'.toArray from p2) hu fun j h1 h2 => e2 j _ _ (by simp at h1; simp [h1]) (by simp at h2; simp [h2])
    rw [e3]
    simpa [e1] using this
  · obtain ⟨e, he⟩ := hall its its' r1 r2
    have := SeqAt.RcNeAt.tuples (e := e) (show s.heap.IsTuple a its.toArray from p1) (show s.heap.IsTuple b its'.toArray from p2) hu fun j h1 h2 => he j _ _ (by simp at h1; simp [h1]) (by simp at h2; simp [h2])
    rw [hn hl]
    have hl' : its.length ≠ its'.length := by rw [← r1.length, ← r2.length]; exact hl
    simp only [List.size_toArray] at this
    rw [show (its.length == its'.length) = false from by simp [hl'], Bool.and_false] at this
    exact this
theorem rcn_ty (I : Inv X pins σ H s) (hs : Same F H) {t : Ty} (h : t.eqok = true) {A : Around} (hu : A.units + t.depth < cLine) {x y : t.den} {a b : Addr} (p : rl X.K mg t x [.ref a] F) (q : rl X.K mg t y [.ref b] F) : SeqAt.RcNeAt A s (.ref a) (.ref b) (!t.beq x y) := by
  cases t with
  | int => cases (show [V.ref a] = _ from p)
  | bool => cases (show [V.ref a] = _ from p)
  | str => cases (show [V.ref a] = _ from p)
  | non => cases (show [V.ref a] = _ from p)
  | nl => cases (show [V.ref a] = _ from p)
  | scr => cases h
  | sum _ _ => cases h
  | ins _ _ _ => cases h
  | opt t =>
    have h' := (Bool.and_eq_true _ _).mp (show (t.some_ && t.eqok) = true from h)
    cases x with
    | none => cases (show [V.ref a] = _ from p)
    | some x =>
      cases y with
      | none => cases (show [V.ref b] = _ from q)
      | some y => exact rcn_ty I hs (t := t) h'.2 hu p.2 q.2
  | pr t u =>
    obtain ⟨v, r, e1, p1, p2⟩ := p
    obtain ⟨w, r', e2, q1, q2⟩ := q
    cases e1; cases e2
    have h' := (Bool.and_eq_true _ _).mp (show (t.eqok && u.eqok) = true from h)
    have hu' : A.units + (t.depth + u.depth) < cLine := hu
    have c1 := rcn_ty I hs (t := t) h'.1 (A := A) (by omega) p1 q1
    obtain ⟨e, _, _, e3⟩ := eqL_ty I hs u h'.2 A (by omega) x.2 y.2 [] [] p2 q2 [] [] .nil .nil
    have e4 : u.beq x.2 y.2 = true := e3
    show SeqAt.RcNeAt A s (.ref a) (.ref b) (!(t.beq x.1 y.1 && u.beq x.2 y.2))
    rw [e4, Bool.and_true]; exact c1
  | tup fs =>
    obtain ⟨a', zs, e1, s1, r1⟩ := p
    obtain ⟨b', zs', e2, s2, r2⟩ := q
    cases e1; cases e2
    have hu' : A.units + fs.depth + 1 < cLine := hu
    have go : ∀ us us', Vals zs us → Vals zs' us' → EqL A.in1 s us us' (fs.beq x y) := fun us us' v v' => eqL_ty I hs fs h A.in1 (by show A.units + 1 + fs.depth < cLine; omega) x y zs zs' r1 r2 us us' v v'
    refine rcn_tuples (by omega) I (sqT_same hs s1) (sqT_same hs s2) (fun _ => go) (fun hn => ?_) fun us us' v v' => ?_
    · obtain ⟨its, v1, _, _⟩ := I.tuple (sqT_same hs s1)
      obtain ⟨its', v2, _, _⟩ := I.tuple (sqT_same hs s2)
      obtain ⟨_, e1, _⟩ := go its its' v1 v2
      exact absurd (by rw [v1.length, v2.length]; exact e1) hn
    · obtain ⟨e, _, e2, _⟩ := go us us' v v'
      exact ⟨e, e2⟩
  | vtup t =>
    obtain ⟨a', zs, e1, s1, r1⟩ := p
    obtain ⟨b', zs', e2, s2, r2⟩ := q
    cases e1; cases e2
    have hu' : A.units + t.depth + 1 < cLine := hu
    have pt : ∀ x y v w u u', rl X.K mg t x [v] F → rl X.K mg t y [w] F → RelV v u → RelV w u' → SeqAt.EqAt A.in1 s u u' (t.beq x y) := fun x y v w u u' a b c d =>
      (eqL_ty I hs t h A.in1 (by show A.units + 1 + t.depth < cLine; omega) x y [v] [w] a b [u] [u'] (.cons c .nil) (.cons d .nil)).one
    exact rcn_tuples (by omega) I (sqT_same hs s1) (sqT_same hs s2) (fun hl us us' v v' => eqL_all (f := t.beq) pt r1 r2 v v' hl) (fun hn => lbeq_len (by rw [r1.len, r2.len]; exact hn)) fun us us' v v' => eqL_pts (f := t.beq) pt r1 r2 v v'
  | hl fs =>
    obtain ⟨a', zs, e1, s1, r1⟩ := p
    obtain ⟨b', zs', e2, s2, r2⟩ := q
    cases e1; cases e2
    have hu' : A.units + fs.depth + 1 < cLine := hu
    have go : ∀ us us', Vals zs us → Vals zs' us' → EqL A.in1 s us us' (fs.beq x y) := fun us us' v v' => eqL_ty I hs fs h A.in1 (by show A.units + 1 + fs.depth < cLine; omega) x y zs zs' r1 r2 us us' v v'
    refine rcn_lists (by omega) I (SqL.of (hs _ _ s1)) (SqL.of (hs _ _ s2)) (fun _ => go) (fun hn => ?_)
    obtain ⟨its, v1, _, _⟩ := I.list (SqL.of (hs _ _ s1))
    obtain ⟨its', v2, _, _⟩ := I.list (SqL.of (hs _ _ s2))
    obtain ⟨_, e1, _⟩ := go its its' v1 v2
    exact absurd (by rw [v1.length, v2.length]; exact e1) hn
  | list t =>
    obtain ⟨a', zs, e1, s1, r1⟩ := p
    obtain ⟨b', zs', e2, s2, r2⟩ := q
    cases e1; cases e2
    have hu' : A.units + t.depth + 1 < cLine := hu
    have pt : ∀ x y v w u u', rl X.K mg t x [v] F → rl X.K mg t y [w] F → RelV v u → RelV w u' → SeqAt.EqAt A.in1 s u u' (t.beq x y) := fun x y v w u u' a b c d =>
      (eqL_ty I hs t h A.in1 (by show A.units + 1 + t.depth < cLine; omega) x y [v] [w] a b [u] [u'] (.cons c .nil) (.cons d .nil)).one
    exact rcn_lists (by omega) I (SqL.of (hs _ _ s1)) (SqL.of (hs _ _ s2)) (fun hl us us' v v' => eqL_all (f := t.beq) pt r1 r2 v v' hl) (fun hn => lbeq_len (by rw [r1.len, r2.len]; exact hn))
end

/-! ## comparisons -/
/-- == of things of one code; depth bounded -/
def Ty.top : Ty → Bool
  | .int => true
  | .bool => true
  | .str => true
  | .non => true
  | .tup fs => fs.eqok
  | .vtup t => t.eqok
  | .hl fs => fs.eqok
  | .list t => t.eqok
  | .opt .int => true
  | .opt .bool => true
  | .opt .str => true
  | _ => false
theorem top_eqok : ∀ {t : Ty}, t.top = true → t.eqok = true
  | .int, _ => rfl
  | .bool, _ => rfl
  | .str, _ => rfl
  | .non, _ => rfl
  | .tup _, h => h
  | .vtup _, h => h
  | .hl _, h => h
  | .list _, h => h
  | .opt .int, _ => rfl
  | .opt .bool, _ => rfl
  | .opt .str, _ => rfl
def rEqT (X : Cx) : R2 := fun v w H Q => ∃ F t x y, Same F H ∧ Ty.top t = true ∧ t.depth ≤ 60 ∧ rl X.K X.mg t x [v] F ∧ rl X.K X.mg t y [w] F ∧ Q (.bl (t.beq x y)) H
def rNeT (X : Cx) : R2 := fun v w H Q => ∃ F t x y, Same F H ∧ Ty.top t = true ∧ t.depth ≤ 60 ∧ rl X.K X.mg t x [v] F ∧ rl X.K X.mg t y [w] F ∧ Q (.bl (!t.beq x y)) H
/-- a scalar, or at an address -/
theorem top_kind {K : PySem.W.Frag} {mg : Str → Option Value} {F : Hp} {t : Ty} (h : t.top = true) : (∀ (x : t.den) v, rl K mg t x [v] F → ∃ a, v = .ref a) ∨
    ∀ (x y : t.den) v w, rl K mg t x [v] F → rl K mg t y [w] F → scal v w = true ∧ t.beq x y = decide (v = w) := by
  cases t with
  | int => exact .inr fun x y v w p q => by cases (List.cons.inj (show [v] = _ from p)).1; cases (List.cons.inj (show [w] = _ from q)).1; exact ⟨rfl, dec_int.symm⟩
  | bool => exact .inr fun x y v w p q => by cases (List.cons.inj (show [v] = _ from p)).1; cases (List.cons.inj (show [w] = _ from q)).1; exact ⟨rfl, dec_bl.symm⟩
  | str => exact .inr fun x y v w p q => by cases (List.cons.inj (show [v] = _ from p)).1; cases (List.cons.inj (show [w] = _ from q)).1; exact ⟨rfl, dec_str.symm⟩
  | non => exact .inr fun x y v w p q => by cases (List.cons.inj (show [v] = _ from p)).1; cases (List.cons.inj (show [w] = _ from q)).1; exact ⟨rfl, by simp [Ty.beq]⟩
  | tup fs => exact .inl fun x v p => by obtain ⟨a, _, e, _⟩ := p; exact ⟨a, (List.cons.inj e).1⟩
  | vtup fs => exact .inl fun x v p => by obtain ⟨a, _, e, _⟩ := p; exact ⟨a, (List.cons.inj e).1⟩
  | hl fs => exact .inl fun x v p => by obtain ⟨a, _, e, _⟩ := p; exact ⟨a, (List.cons.inj e).1⟩
  | list fs => exact .inl fun x v p => by obtain ⟨a, _, e, _⟩ := p; exact ⟨a, (List.cons.inj e).1⟩
  | opt t =>
    cases t with
    | int =>
      refine .inr fun x y v w p q => ?_
      cases x with
      | none => cases y with
        | none => cases (List.cons.inj (show [v] = _ from p)).1; cases (List.cons.inj (show [w] = _ from q)).1; exact ⟨rfl, by simp [Ty.beq]⟩
        | some y => cases (List.cons.inj (show [v] = _ from p)).1; cases (List.cons.inj (show [w] = _ from q.2)).1; exact ⟨rfl, by simp [Ty.beq]⟩
      | some x => cases y with
        | none => cases (List.cons.inj (show [v] = _ from p.2)).1; cases (List.cons.inj (show [w] = _ from q)).1; exact ⟨rfl, by simp [Ty.beq]⟩
        | some y => cases (List.cons.inj (show [v] = _ from p.2)).1; cases (List.cons.inj (show [w] = _ from q.2)).1; exact ⟨rfl, dec_int.symm⟩
    | bool =>
      refine .inr fun x y v w p q => ?_
      cases x with
      | none => cases y with
        | none => cases (List.cons.inj (show [v] = _ from p)).1; cases (List.cons.inj (show [w] = _ from q)).1; exact ⟨rfl, by simp [Ty.beq]⟩
        | some y => cases (List.cons.inj (show [v] = _ from p)).1; cases (List.cons.inj (show [w] = _ from q.2)).1; exact ⟨rfl, by simp [Ty.beq]⟩
      | some x => cases y with
        | none => cases (List.cons.inj (show [v] = _ from p.2)).1; cases (List.cons.inj (show [w] = _ from q)).1; exact ⟨rfl, by simp [Ty.beq]⟩
        | some y => cases (List.cons.inj (show [v] = _ from p.2)).1; cases (List.cons.inj (show [w] = _ from q.2)).1; exact ⟨rfl, dec_bl.symm⟩
    | str =>
      refine .inr fun x y v w p q => ?_
      cases x with
      | none => cases y with
        | none => cases (List.cons.inj (show [v] = _ from p)).1; cases (List.cons.inj (show [w] = _ from q)).1; exact ⟨rfl, by simp [Ty.beq]⟩
        | some y => cases (List.cons.inj (show [v] = _ from p)).1; cases (List.cons.inj (show [w] = _ from q.2)).1; exact ⟨rfl, by simp [Ty.beq]⟩
      | some x => cases y with
        | none => cases (List.cons.inj (show [v] = _ from p.2)).1; cases (List.cons.inj (show [w] = _ from q)).1; exact ⟨rfl, by simp [Ty.beq]⟩
        | some y => cases (List.cons.inj (show [v] = _ from p.2)).1; cases (List.cons.inj (show [w] = _ from q.2)).1; exact ⟨rfl, dec_str.symm⟩
    | _ => cases h
  | _ => cases h
section
variable {X : Cx} {W : WX} {Γ : Ctx} {a b c e : Expr} {pos p p2 : Pos} {t t1 t2 : Ty} {r : Rt}
theorem op_eqT (hu : X.A.units + 64 < cLine) : OpR X (compareOp .Eq) (rEqT X) := by
  intro pins s σ H v w u u' Q I rv rw' h
  obtain ⟨F, t, x, y, hs, ht, hd, p, q, hq⟩ := h
  rcases top_kind (K := X.K) (mg := X.mg) (F := F) ht with k | k
  · obtain ⟨a, rfl⟩ := k x v p
    obtain ⟨b, rfl⟩ := k y w q
    cases rv; cases rw'
    exact rc_ty I hs (top_eqok ht) (by omega) p q X.prog X.w X.xe _ ⟨.bl _, H, I, rfl, hq⟩
  · obtain ⟨k1, k2⟩ := k x y v w p q
    exact op_eq pins s σ H v w u u' Q I rv rw' ⟨k1, by rw [← k2]; exact hq⟩
theorem op_neT (hu : X.A.units + 64 < cLine) : OpR X (compareOp .NotEq) (rNeT X) := by
  intro pins s σ H v w u u' Q I rv rw' h
  obtain ⟨F, t, x, y, hs, ht, hd, p, q, hq⟩ := h
  rcases top_kind (K := X.K) (mg := X.mg) (F := F) ht with k | k
  · obtain ⟨a, rfl⟩ := k x v p
    obtain ⟨b, rfl⟩ := k y w q
    cases rv; cases rw'
    exact rcn_ty I hs (top_eqok ht) (by omega) p q X.prog X.w X.xe _ ⟨.bl _, H, I, rfl, hq⟩
  · obtain ⟨k1, k2⟩ := k x y v w p q
    exact op_ne pins s σ H v w u u' Q I rv rw' ⟨k1, by rw [← k2]; exact hq⟩
theorem pc_op {op : CmpOp} {ta tb : TE} {rR : R2} (ho : OpR X (compareOp op) rR) (ha : PE X a ta) (hb : PE X b tb) : PC X op a b (tOp rR ta tb) :=
  ⟨fun pins s σ H Q I h => bin (R := fun x y H2 => rR x y H2 Q) ha hb I h fun v u s2 x y H2 I2 rx ry q => ho pins s2 σ H2 x y v u Q I2 rx ry q⟩
theorem pc_imp {op : CmpOp} {t t' : TE} (h : PC X op a b t) (i : ∀ σ H Q, t' σ H Q → t σ H Q) : PC X op a b t' := ⟨fun pins s σ H Q I q => h.run pins s σ H Q I (i σ H Q q)⟩
/-- a comparison -/
abbrev EC (X : Cx) (W : WX) (Γ : Ctx) (op : CmpOp) (a b : Expr) (m : Mx Bool) : Prop := PC X op a b (tR X.mg X.K W Γ (.d .bool) m)
theorem e_c2 {op : CmpOp} {m : Mx Bool} (h : EC X W Γ op a b m) (hm : behindInMarks op b = false := by first | exact nomark _ | rfl) : EM X W Γ (.Compare a [op] [b] pos) .bool m := pe_cmp h hm
theorem t_c2 {op : CmpOp} {m : Mx Bool} (h : EC X W Γ op a b m) (hm : behindInMarks op b = false := by first | exact nomark _ | rfl) : ET X W Γ (.Compare a [op] [b] pos) m := pt_imp (pt_cmp h hm) fun σ H Q ⟨F, s, d, p⟩ =>
  ⟨F, s, d, p.mono fun x px v F1 H1 e1 r1 => by cases (List.cons.inj (show [v] = _ from r1)).1; exact ⟨x, rfl, px F1 H1 e1⟩⟩
theorem c_op {op : CmpOp} {m1 : Mx t1.den} {m2 : Mx t2.den} {g : t1.den → t2.den → Option Bool} {rR : R2} (ho : OpR X (compareOp op) rR)
    (hr : ∀ x y z, g x y = some z → ∀ v w F H Q, Same F H → rl X.K X.mg t1 x [v] F → rl X.K X.mg t2 y [w] F → Q (.bl z) H → rR v w H Q)
    (ha : EM X W Γ a t1 m1) (hb : EM X W Γ b t2 m2) : EC X W Γ op a b (m1 >>= fun x => m2 >>= fun y => ofO (g x y)) :=
  pc_imp (pc_op ho ha hb) (two_of (r := .d .bool) fun x y v w F H σ Q s r1 r2 p => by
    cases e : g x y with
    | none => rw [e] at p; exact p.elim
    | some z => rw [e] at p; exact hr x y z e v w F H Q s r1 r2 (p _ F H (Ext.refl s) rfl))
theorem c_eq {m1 m2 : Mx t.den} [d : DecidableEq t.den] (hu : X.A.units + 64 < cLine) (ha : EM X W Γ a t m1) (hb : EM X W Γ b t m2) (ht : t.top = true := by rfl) (hd : t.depth ≤ 60 := by decide) :
    EC X W Γ .Eq a b (m1 >>= fun x => m2 >>= fun y => .ok (decide (x = y))) :=
  c_op (g := fun x y => some (decide (x = y))) (op_eqT hu) (fun x y z e v w F H Q s r1 r2 k => by
    cases e
    exact ⟨F, t, x, y, s, ht, hd, r1, r2, by rw [beq_dec (top_eqok ht)]; exact k⟩) ha hb
theorem c_ne {m1 m2 : Mx t.den} [d : DecidableEq t.den] (hu : X.A.units + 64 < cLine) (ha : EM X W Γ a t m1) (hb : EM X W Γ b t m2) (ht : t.top = true := by rfl) (hd : t.depth ≤ 60 := by decide) :
    EC X W Γ .NotEq a b (m1 >>= fun x => m2 >>= fun y => .ok (!decide (x = y))) :=
  c_op (g := fun x y => some (!decide (x = y))) (op_neT hu) (fun x y z e v w F H Q s r1 r2 k => by
    cases e
    exact ⟨F, t, x, y, s, ht, hd, r1, r2, by rw [beq_dec (top_eqok ht)]; exact k⟩) ha hb
end
end Gm
set_option Elab.async false
set_option linter.all false
set_option maxRecDepth 100000
set_option maxHeartbeats 4000000
namespace Gm
open PySem PySem.Spec L2

section
variable {X : Cx} {W : WX} {Γ : Ctx} {a b c e : Expr} {pos p p2 : Pos} {t t1 t2 : Ty} {r : Rt} {pins : List (Addr × Obj)} {σ : L2.St} {F H : Hp} {s : Shared}

/-! ## whole numbers -/
abbrev K2 (g : Int → Int → Int) : Int → Int → Option Int := fun x y => some (g x y)
theorem r0 {g : Int → Int → V} {t : Ty} {f : Int → Int → t.den} (hg : ∀ x y F, rl X.K X.mg t (f x y) [g x y] F) : ∀ (x y : Int) z, some (f x y) = some z → ∀ v w F H Q, Same F H → rl X.K X.mg .int x [v] F → rl X.K X.mg .int y [w] F →
    (∀ u F' H', Ext F H F' H' → rtr X.K X.mg (.d t) z u H F' H' → Q u H') → rI0 g v w H Q := fun x y z e v w F H Q s r1 r2 k => by
  cases e
  cases (List.cons.inj (show [v] = _ from r1)).1
  cases (List.cons.inj (show [w] = _ from r2)).1
  exact ⟨x, y, rfl, rfl, k _ F H (Ext.refl s) (hg x y F)⟩
theorem rC {C : Int → Int → Prop} [d : ∀ x y, Decidable (C x y)] {g : Int → Int → V} {t : Ty} {f : Int → Int → t.den} (hg : ∀ x y F, rl X.K X.mg t (f x y) [g x y] F) : ∀ (x y : Int) z, (if C x y then some (f x y) else none) = some z → ∀ v w F H Q, Same F H → rl X.K X.mg .int x [v] F → rl X.K X.mg .int y [w] F →
    (∀ u F' H', Ext F H F' H' → rtr X.K X.mg (.d t) z u H F' H' → Q u H') → rI C g v w H Q := fun x y z e v w F H Q s r1 r2 k => by
  by_cases h : C x y
  · rw [if_pos h] at e
    cases e
    cases (List.cons.inj (show [v] = _ from r1)).1
    cases (List.cons.inj (show [w] = _ from r2)).1
    exact ⟨x, y, rfl, rfl, h, k _ F H (Ext.refl s) (hg x y F)⟩
  · rw [if_neg h] at e; cases e
instance (x y : Int) : Decidable (CMul x y) := by unfold CMul; infer_instance
instance (x y : Int) : Decidable (CDiv x y) := by unfold CDiv; infer_instance
instance (x y : Int) : Decidable (CPow x y) := by unfold CPow; infer_instance
def mulO (x y : Int) : Option Int := if CMul x y then some (x * y) else none
def modO (x y : Int) : Option Int := if 0 < y then some (x % y) else none
def divO (x y : Int) : Option Int := if CDiv x y then some (x / y) else none
def powO (x y : Int) : Option Int := if CPow x y then some (x ^ y.toNat) else none
variable {m1 m2 : Mx Int}
theorem e_add (ha : EM X W Γ a .int m1) (hb : EM X W Γ b .int m2) : EM X W Γ (.BinOp a .Add b pos) .int (m1 >>= fun x => m2 >>= fun y => .ok (x + y)) := e_bin (t1 := .int) (t2 := .int) (r := .d .int) (g := fun x y => some (x + y)) op_add (r0 (t := .int) (f := fun x y => x + y) fun _ _ _ => rfl) ha hb
theorem e_sub (ha : EM X W Γ a .int m1) (hb : EM X W Γ b .int m2) : EM X W Γ (.BinOp a .Sub b pos) .int (m1 >>= fun x => m2 >>= fun y => .ok (x - y)) := e_bin (t1 := .int) (t2 := .int) (r := .d .int) (g := fun x y => some (x - y)) op_sub (r0 (t := .int) (f := fun x y => x - y) fun _ _ _ => rfl) ha hb
theorem e_mul (ha : EM X W Γ a .int m1) (hb : EM X W Γ b .int m2) : EM X W Γ (.BinOp a .Mult b pos) .int (m1 >>= fun x => m2 >>= fun y => ofO (mulO x y)) := e_bin (t1 := .int) (t2 := .int) (r := .d .int) (g := mulO) op_mul (rC (t := .int) (f := fun x y => x * y) fun _ _ _ => rfl) ha hb
theorem e_mod (ha : EM X W Γ a .int m1) (hb : EM X W Γ b .int m2) : EM X W Γ (.BinOp a .Mod b pos) .int (m1 >>= fun x => m2 >>= fun y => ofO (modO x y)) := e_bin (t1 := .int) (t2 := .int) (r := .d .int) (g := modO) op_mod (rC (t := .int) (C := fun _ y => 0 < y) (f := fun x y => x % y) fun _ _ _ => rfl) ha hb
theorem e_div (ha : EM X W Γ a .int m1) (hb : EM X W Γ b .int m2) : EM X W Γ (.BinOp a .FloorDiv b pos) .int (m1 >>= fun x => m2 >>= fun y => ofO (divO x y)) := e_bin (t1 := .int) (t2 := .int) (r := .d .int) (g := divO) op_fdiv (rC (t := .int) (f := fun x y => x / y) fun _ _ _ => rfl) ha hb
theorem e_pow (ha : EM X W Γ a .int m1) (hb : EM X W Γ b .int m2) : EM X W Γ (.BinOp a .Pow b pos) .int (m1 >>= fun x => m2 >>= fun y => ofO (powO x y)) := e_bin (t1 := .int) (t2 := .int) (r := .d .int) (g := powO) op_pow (rC (t := .int) (f := fun x y => x ^ y.toNat) fun _ _ _ => rfl) ha hb
theorem c0 {p : Int → Int → Bool} : ∀ (x y : Int) z, some (p x y) = some z → ∀ v w F H Q, Same F H → rl X.K X.mg .int x [v] F → rl X.K X.mg .int y [w] F → Q (.bl z) H → rI0 (fun i j => .bl (p i j)) v w H Q := fun x y z e v w F H Q s r1 r2 k => by
  cases e
  cases (List.cons.inj (show [v] = _ from r1)).1
  cases (List.cons.inj (show [w] = _ from r2)).1
  exact ⟨x, y, rfl, rfl, k⟩
theorem c_lt (ha : EM X W Γ a .int m1) (hb : EM X W Γ b .int m2) : EC X W Γ .Lt a b (m1 >>= fun x => m2 >>= fun y => .ok (decide (x < y))) := c_op (t1 := .int) (t2 := .int) (g := fun x y => some (decide (x < y))) op_lt (c0 (p := fun x y => decide (x < y))) ha hb
theorem c_le (ha : EM X W Γ a .int m1) (hb : EM X W Γ b .int m2) : EC X W Γ .LtE a b (m1 >>= fun x => m2 >>= fun y => .ok (decide (x ≤ y))) := c_op (t1 := .int) (t2 := .int) (g := fun x y => some (decide (x ≤ y))) op_le (c0 (p := fun x y => decide (x ≤ y))) ha hb
theorem c_gt (ha : EM X W Γ a .int m1) (hb : EM X W Γ b .int m2) : EC X W Γ .Gt a b (m1 >>= fun x => m2 >>= fun y => .ok (decide (y < x))) := c_op (t1 := .int) (t2 := .int) (g := fun x y => some (decide (y < x))) op_gt (c0 (p := fun x y => decide (y < x))) ha hb
theorem c_ge (ha : EM X W Γ a .int m1) (hb : EM X W Γ b .int m2) : EC X W Γ .GtE a b (m1 >>= fun x => m2 >>= fun y => .ok (decide (y ≤ x))) := c_op (t1 := .int) (t2 := .int) (g := fun x y => some (decide (y ≤ x))) op_ge (c0 (p := fun x y => decide (y ≤ x))) ha hb
theorem e_neg (ha : EM X W Γ a .int m1) : EM X W Γ (.UnaryOp .USub a pos) .int (m1 >>= fun x => .ok (-x)) := pe_imp (pe_un un_neg ha) (one_of (t1 := .int) (r := .d .int) (k := fun x => .ok (-x)) fun x v F H σ Q s r1 k => by
  cases (List.cons.inj (show [v] = _ from r1)).1
  exact ⟨x, rfl, k _ F H (Ext.refl s) rfl⟩)
/-! ## texts -/
def catO (x y : Str) : Option Str := if x.length + y.length ≤ sizeLine then some (x ++ y) else none
theorem e_cat {m1 m2 : Mx Str} (ha : EM X W Γ a .str m1) (hb : EM X W Γ b .str m2) : EM X W Γ (.BinOp a .Add b pos) .str (m1 >>= fun x => m2 >>= fun y => ofO (catO x y)) := e_bin (t1 := .str) (t2 := .str) (r := .d .str) (g := catO) op_add_str (fun x y z e v w F H Q s r1 r2 k => by
  unfold catO at e
  by_cases h : x.length + y.length ≤ sizeLine
  · rw [if_pos h] at e
    cases e
    cases (List.cons.inj (show [v] = _ from r1)).1
    cases (List.cons.inj (show [w] = _ from r2)).1
    exact ⟨x, y, rfl, rfl, h, k _ F H (Ext.refl s) rfl⟩
  · rw [if_neg h] at e; cases e) ha hb
/-! ## None -/
theorem rl_isnone {K : PySem.W.Frag} {mg : Str → Option Value} {x : Option t.den} {v : V} (r : rl K mg (.opt t) x [v] F) : decide (v = .non) = x.isNone := by
  cases x with
  | none => cases (List.cons.inj (show [v] = _ from r)).1; rfl
  | some y => exact decide_eq_false fun z => r.1 (by rw [z])
theorem c_isN {m : Mx (Option t.den)} {j : Nat} (ha : EM X W Γ a (.opt t) m) : EC X W Γ .Is a (.Constant .none j p) (m >>= fun x => .ok x.isNone) := pc_imp (pc_isN ha) fun σ H Q ⟨F, s, d, p⟩ =>
  ⟨F, s, d, p.bind.mono fun x px v F1 H1 e1 r1 => by show Q (.bl (decide (v = .non))) H1; rw [rl_isnone r1]; exact px _ F1 H1 e1 rfl⟩
theorem c_notN {m : Mx (Option t.den)} {j : Nat} (ha : EM X W Γ a (.opt t) m) : EC X W Γ .IsNot a (.Constant .none j p) (m >>= fun x => .ok x.isSome) := pc_imp (pc_notN ha) fun σ H Q ⟨F, s, d, p⟩ =>
  ⟨F, s, d, p.bind.mono fun x px v F1 H1 e1 r1 => by show Q (.bl (!decide (v = .non))) H1; rw [rl_isnone r1, show (!x.isNone) = x.isSome by cases x <;> rfl]; exact px _ F1 H1 e1 rfl⟩
/-! ## not, and, or as values -/
theorem e_not {m : Mx Bool} (ha : EM X W Γ a .bool m) : EM X W Γ (.UnaryOp .Not a pos) .bool (m >>= fun x => .ok (!x)) := pe_imp (pe_not ha) fun σ H Q ⟨F, s, d, p⟩ =>
  ⟨F, s, d, p.bind.mono fun x px v F1 H1 e1 r1 => by cases (List.cons.inj (show [v] = _ from r1)).1; exact ⟨x, rfl, px _ F1 H1 e1 rfl⟩⟩
theorem e_b1 {m : Mx Bool} {op : BoolOp} (ha : EM X W Γ a .bool m) : EM X W Γ (.BoolOp op [a] pos) .bool m := pe_one ha
theorem e_and {m1 m2 : Mx Bool} {rest : List Expr} (ha : EM X W Γ a .bool m1) (hb : EM X W Γ (.BoolOp .And (b :: rest) pos) .bool m2) : EM X W Γ (.BoolOp .And (a :: b :: rest) pos) .bool (m1 >>= fun x => if x then m2 else .ok false) :=
  pe_imp (pe_and ha hb) fun σ H Q ⟨F, s, d, p⟩ => ⟨F, s, d, p.bind.mono fun x px v F1 H1 e1 r1 => by
    cases (List.cons.inj (show [v] = _ from r1)).1
    refine ⟨x, rfl, ?_⟩
    cases x with
    | true => exact ⟨F1, e1.i, d.mono e1.f, post.ext e1 px fun y py w F2 H2 e2 r2 => py w F2 H2 (e1.trans e2) (rtr_pre (r := .d .bool) e1.h r2)⟩
    | false => exact px _ F1 H1 e1 rfl⟩
theorem e_or {m1 m2 : Mx Bool} {rest : List Expr} (ha : EM X W Γ a .bool m1) (hb : EM X W Γ (.BoolOp .Or (b :: rest) pos) .bool m2) : EM X W Γ (.BoolOp .Or (a :: b :: rest) pos) .bool (m1 >>= fun x => if x then .ok true else m2) :=
  pe_imp (pe_or ha hb) fun σ H Q ⟨F, s, d, p⟩ => ⟨F, s, d, p.bind.mono fun x px v F1 H1 e1 r1 => by
    cases (List.cons.inj (show [v] = _ from r1)).1
    refine ⟨x, rfl, ?_⟩
    cases x with
    | false => exact ⟨F1, e1.i, d.mono e1.f, post.ext e1 px fun y py w F2 H2 e2 r2 => py w F2 H2 (e1.trans e2) (rtr_pre (r := .d .bool) e1.h r2)⟩
    | true => exact px _ F1 H1 e1 rfl⟩
/-! ## tests -/
theorem t_of {m : Mx Bool} (ha : EM X W Γ a .bool m) (he : ∀ whole, isTrue a X.env whole = (do let v ← whole; standAt a.pos; holding [v] (truthy v)) := by intro _; rfl) : ET X W Γ a m := pt_imp (pt_val ha he) fun σ H Q ⟨F, s, d, p⟩ =>
  ⟨F, s, d, p.mono fun x px v F1 H1 e1 r1 => by cases (List.cons.inj (show [v] = _ from r1)).1; exact ⟨x, rfl, px F1 H1 e1⟩⟩
theorem t_not {m : Mx Bool} (ha : ET X W Γ a m) : ET X W Γ (.UnaryOp .Not a pos) (m >>= fun x => .ok (!x)) := pt_imp (pt_not ha) fun σ H Q ⟨F, s, d, p⟩ =>
  ⟨F, s, d, p.bind.mono fun x px F1 H1 e1 => px F1 H1 e1⟩
abbrev EW (X : Cx) (W : WX) (Γ : Ctx) (e : Expr) (m : Mx Bool) : Prop := PW X e (tT X.mg X.K W Γ m)
theorem pw_imp {e : Expr} {t t' : TT} (h : PW X e t) (i : ∀ σ H Q, t' σ H Q → t σ H Q) : PW X e t' := ⟨fun wh pins s σ H Q I q => h.run wh pins s σ H Q I (i σ H Q q)⟩
theorem t_w {m : Mx Bool} (h : EW X W Γ a m) : ET X W Γ a m := PW.pt h
theorem w_and1 {m : Mx Bool} (ha : ET X W Γ a m) : EW X W Γ (.BoolOp .And [a] pos) m := pw_and1 ha
theorem w_or1 {m : Mx Bool} (ha : ET X W Γ a m) : EW X W Γ (.BoolOp .Or [a] pos) m := pw_or1 ha
theorem w_and {m1 m2 : Mx Bool} {rest : List Expr} (ha : ET X W Γ a m1) (hb : EW X W Γ (.BoolOp .And (b :: rest) pos) m2) : EW X W Γ (.BoolOp .And (a :: b :: rest) pos) (m1 >>= fun x => if x then m2 else .ok false) :=
  pw_imp (pw_and ha hb) fun σ H Q ⟨F, s, d, p⟩ => ⟨F, s, d, p.bind.mono fun x px F1 H1 e1 => by
    cases x with
    | true => exact ⟨F1, e1.i, d.mono e1.f, post.ext e1 px fun y py F2 H2 e2 => py F2 H2 (e1.trans e2)⟩
    | false => exact px F1 H1 e1⟩
theorem w_or {m1 m2 : Mx Bool} {rest : List Expr} (ha : ET X W Γ a m1) (hb : EW X W Γ (.BoolOp .Or (b :: rest) pos) m2) : EW X W Γ (.BoolOp .Or (a :: b :: rest) pos) (m1 >>= fun x => if x then .ok true else m2) :=
  pw_imp (pw_or ha hb) fun σ H Q ⟨F, s, d, p⟩ => ⟨F, s, d, p.bind.mono fun x px F1 H1 e1 => by
    cases x with
    | false => exact ⟨F1, e1.i, d.mono e1.f, post.ext e1 px fun y py F2 H2 e2 => py F2 H2 (e1.trans e2)⟩
    | true => exact px F1 H1 e1⟩
/-- a if t else b -/
theorem e_if {c : Expr} {mc : Mx Bool} {m1 m2 : Mx r.den} (hc : ET X W Γ c mc) (ha : ER X W Γ a r m1) (hb : ER X W Γ b r m2) : ER X W Γ (.IfExp c a b pos) r (mc >>= fun x => if x then m1 else m2) :=
  pe_imp (pe_ifExp hc ha hb) fun σ H Q ⟨F, s, d, p⟩ => ⟨F, s, d, p.bind.mono fun x px F1 H1 e1 => by
    cases x with
    | true => exact ⟨F1, e1.i, d.mono e1.f, post.ext e1 px fun y py w F2 H2 e2 r2 => py w F2 H2 (e1.trans e2) (rtr_pre e1.h r2)⟩
    | false => exact ⟨F1, e1.i, d.mono e1.f, post.ext e1 px fun y py w F2 H2 e2 r2 => py w F2 H2 (e1.trans e2) (rtr_pre e1.h r2)⟩⟩
/-! ## subscripts, slices -/
theorem all2_atI {α : Type} {R : α → V → Prop} {xs : List α} {vs : List V} {i : Int} {x : α} (h : all2 R xs vs) (e : atI xs i = some x) : ∃ v, atI vs i = some v ∧ R x v := by
  unfold atI at e ⊢
  rw [h.len] at e
  cases k : ixN vs.length i with
  | none => rw [k] at e; cases e
  | some j =>
    rw [k] at e
    obtain ⟨v, h1, h2⟩ := h.get (show xs[j]? = some x from e)
    exact ⟨v, h1, h2⟩
theorem e_ixL {m1 : Mx (List t.den)} {m2 : Mx Int} (ha : EM X W Γ a (.list t) m1) (hb : EM X W Γ b .int m2) (hs : PlainIx b := by intro _ _; rfl) : EM X W Γ (.Subscript a b pos) t (m1 >>= fun x => m2 >>= fun y => ofO (atI x y)) :=
  e_ix (t1 := .list t) (t2 := .int) (r := .d t) (g := fun x y => atI x y) ix_list hs (fun x y z e v w F H Q s r1 r2 k => by
    obtain ⟨p, ws, e1, sq, r⟩ := r1
    cases (List.cons.inj e1).1
    cases (List.cons.inj (show [w] = _ from r2)).1
    obtain ⟨u, h1, h2⟩ := all2_atI r e
    exact ⟨p, ws, y, u, rfl, rfl, SqL.of (s _ _ sq), h1, k u F H (Ext.refl s) h2⟩) ha hb
theorem e_ixT {m1 : Mx (List t.den)} {m2 : Mx Int} (ha : EM X W Γ a (.vtup t) m1) (hb : EM X W Γ b .int m2) (hs : PlainIx b := by intro _ _; rfl) : EM X W Γ (.Subscript a b pos) t (m1 >>= fun x => m2 >>= fun y => ofO (atI x y)) :=
  e_ix (t1 := .vtup t) (t2 := .int) (r := .d t) (g := fun x y => atI x y) ix_tup hs (fun x y z e v w F H Q s r1 r2 k => by
    obtain ⟨p, ws, e1, sq, r⟩ := r1
    cases (List.cons.inj e1).1
    cases (List.cons.inj (show [w] = _ from r2)).1
    obtain ⟨u, h1, h2⟩ := all2_atI r e
    exact ⟨p, ws, y, u, rfl, rfl, sqT_same s sq, h1, k u F H (Ext.refl s) h2⟩) ha hb
/-- a text's sign -/
def atS (x : Str) (i : Int) : Option Str := if x.length ≤ sizeLine then (atI x.cps.toList i).map fun c => ⟨#[c]⟩ else none
theorem e_ixS {m1 : Mx Str} {m2 : Mx Int} (ha : EM X W Γ a .str m1) (hb : EM X W Γ b .int m2) (hs : PlainIx b := by intro _ _; rfl) : EM X W Γ (.Subscript a b pos) .str (m1 >>= fun x => m2 >>= fun y => ofO (atS x y)) :=
  e_ix (t1 := .str) (t2 := .int) (r := .d .str) (g := fun x y => atS x y) ix_str hs (fun x y z e v w F H Q s r1 r2 k => by
    cases (List.cons.inj (show [v] = _ from r1)).1
    cases (List.cons.inj (show [w] = _ from r2)).1
    unfold atS at e
    by_cases h : x.length ≤ sizeLine
    · rw [if_pos h] at e
      cases q : atI x.cps.toList y with
      | none => rw [q] at e; cases e
      | some c =>
        rw [q] at e
        cases e
        exact ⟨x, y, c, rfl, rfl, h, q, k _ F H (Ext.refl s) rfl⟩
    · rw [if_neg h] at e; cases e) ha hb
end
end Gm
set_option Elab.async false
set_option linter.all false
set_option maxRecDepth 100000
set_option maxHeartbeats 4000000
namespace Gm
open PySem PySem.Spec L2

section
variable {X : Cx} {W : WX} {Γ : Ctx} {a b c e : Expr} {es : List Expr} {pos p p2 cpos apos : Pos} {t t1 t2 : Ty} {r : Rt} {F H : Hp} {x : Str}

/-! ## fields by place -/
def Ty.sing : Ty → Bool
  | .non => true
  | .scr => true
  | .opt t => t.some_
  | .pr _ _ => false
  | .nl => false
  | .sum _ _ => false
  | _ => true
theorem rl_sing {K : PySem.W.Frag} {mg : Str → Option Value} {t : Ty} {x : t.den} {vs : List V} (h : t.sing = true) (r : rl K mg t x vs F) : ∃ v, vs = [v] := by
  cases t with
  | non => exact ⟨_, r⟩
  | scr => obtain ⟨_, e, _⟩ := r; exact ⟨_, e⟩
  | opt t =>
    cases x with
    | none => exact ⟨_, r⟩
    | some y => exact rl_one h r.2
  | int => exact rl_one (t := .int) rfl r
  | bool => exact rl_one (t := .bool) rfl r
  | str => exact rl_one (t := .str) rfl r
  | tup fs => exact rl_one (t := .tup fs) rfl r
  | vtup fs => exact rl_one (t := .vtup fs) rfl r
  | hl fs => exact rl_one (t := .hl fs) rfl r
  | list fs => exact rl_one (t := .list fs) rfl r
  | ins c ns fs => exact rl_one (t := .ins c ns fs) rfl r
  | pr _ _ => cases h
  | nl => cases h
  | sum _ _ => cases h
inductive Fl : (fs : Ty) → Nat → (t : Ty) → (fs.den → t.den) → Prop
  | hd {a b : Ty} : Fl (.pr a b) 0 a (fun x => x.1)
  | tl {a b t : Ty} {n : Nat} {π : b.den → t.den} (h : Fl b n t π) : Fl (.pr a b) (n + 1) t (fun x => π x.2)
  | last {t : Ty} (h : t.sing = true) : Fl t 0 t (fun x => x)
theorem Fl.at_ {K : PySem.W.Frag} {mg : Str → Option Value} {fs : Ty} {n : Nat} {t : Ty} {π : fs.den → t.den} (h : Fl fs n t π) : ∀ {x : fs.den} {ws : List V}, rl K mg fs x ws F → ∃ v, ws[n]? = some v ∧ rl K mg t (π x) [v] F := by
  induction h with
  | hd => intro x ws q; obtain ⟨v, r, rfl, q1, _⟩ := q; exact ⟨v, rfl, q1⟩
  | tl h ih => intro x ws q; obtain ⟨v, r, rfl, _, q2⟩ := q; obtain ⟨u, h1, h2⟩ := ih q2; exact ⟨u, by simpa using h1, h2⟩
  | last h => intro x ws q; obtain ⟨v, rfl⟩ := rl_sing h q; exact ⟨v, rfl, q⟩
/-- t[n], n written -/
theorem e_fld {fs : Ty} {i : Int} {n : Nat} {π : fs.den → t.den} {j : Nat} {m : Mx fs.den} (ha : EM X W Γ a (.tup fs) m) (hf : Fl fs n t π) (hi : i = (n : Int) := by rfl) (hs : PlainIx (.Constant (.int i) j p) := by intro _ _; rfl) :
    EM X W Γ (.Subscript a (.Constant (.int i) j p) pos) t (m >>= fun x => .ok (π x)) :=
  pe_imp (pe_ix ix_tup ha (pe_int (i := i)) hs) fun σ H Q ⟨F, s, d, q⟩ => ⟨F, s, d, q.bind.mono fun x px v F1 H1 e1 r1 => by
    subst hi
    obtain ⟨p, ws, e2, sq, rr⟩ := r1
    cases (List.cons.inj e2).1
    obtain ⟨u, h1, h2⟩ := hf.at_ rr
    exact ⟨p, ws, (n : Int), u, rfl, rfl, sqT_same e1.i sq, atI_nat h1, px u F1 H1 e1 h2⟩⟩
/-- l[n], n written, of a list of many kinds -/
theorem e_fldL {fs : Ty} {i : Int} {n : Nat} {π : fs.den → t.den} {j : Nat} {m : Mx fs.den} (ha : EM X W Γ a (.hl fs) m) (hf : Fl fs n t π) (hi : i = (n : Int) := by rfl) (hs : PlainIx (.Constant (.int i) j p) := by intro _ _; rfl) :
    EM X W Γ (.Subscript a (.Constant (.int i) j p) pos) t (m >>= fun x => .ok (π x)) :=
  pe_imp (pe_ix ix_list ha (pe_int (i := i)) hs) fun σ H Q ⟨F, s, d, q⟩ => ⟨F, s, d, q.bind.mono fun x px v F1 H1 e1 r1 => by
    subst hi
    obtain ⟨p, ws, e2, sq, rr⟩ := r1
    cases (List.cons.inj e2).1
    obtain ⟨u, h1, h2⟩ := hf.at_ rr
    exact ⟨p, ws, (n : Int), u, rfl, rfl, SqL.of (e1.i _ _ sq), atI_nat h1, px u F1 H1 e1 h2⟩⟩

/-! ## displays -/
def Ty.ar : Ty → Option Nat
  | .pr _ b => b.ar.map (· + 1)
  | .nl => some 0
  | .non => some 1
  | .scr => some 1
  | .opt t => if t.some_ then some 1 else none
  | .sum _ _ => none
  | .int => some 1
  | .bool => some 1
  | .str => some 1
  | .tup _ => some 1
  | .vtup _ => some 1
  | .hl _ => some 1
  | .list _ => some 1
  | .ins _ _ _ => some 1
theorem rl_ar {K : PySem.W.Frag} {mg : Str → Option Value} : ∀ {t : Ty} {n : Nat} {x : t.den} {vs : List V}, t.ar = some n → rl K mg t x vs F → vs.length = n
  | .pr a b, n, x, vs, h, r => by
    obtain ⟨v, r', rfl, _, q⟩ := r
    have h' : b.ar.map (· + 1) = some n := h
    cases e : b.ar with
    | none => rw [e] at h'; cases h'
    | some k =>
      rw [e] at h'
      have hn : k + 1 = n := Option.some.inj h'
      rw [List.length_cons, rl_ar e q, hn]
  | .nl, _, _, _, h, r => by cases h; rw [show _ = _ from r]; rfl
  | .non, _, _, _, h, r => by cases h; rw [show _ = _ from r]; rfl
  | .scr, _, _, _, h, r => by cases h; obtain ⟨_, e, _⟩ := r; rw [e]; rfl
  | .opt t, n, x, vs, h, r => by
    have h' : (if t.some_ then some 1 else none) = some n := h
    by_cases ht : t.some_ = true
    · rw [if_pos ht] at h'
      cases h'
      obtain ⟨v, rfl⟩ := rl_sing (t := .opt t) ht r
      rfl
    · rw [if_neg ht] at h'; cases h'
  | .int, _, _, _, h, r => by cases h; rw [show _ = _ from r]; rfl
  | .bool, _, _, _, h, r => by cases h; rw [show _ = _ from r]; rfl
  | .str, _, _, _, h, r => by cases h; rw [show _ = _ from r]; rfl
  | .tup _, _, _, _, h, r => by cases h; obtain ⟨_, _, e, _⟩ := r; rw [e]; rfl
  | .vtup _, _, _, _, h, r => by cases h; obtain ⟨_, _, e, _⟩ := r; rw [e]; rfl
  | .hl _, _, _, _, h, r => by cases h; obtain ⟨_, _, e, _⟩ := r; rw [e]; rfl
  | .list _, _, _, _, h, r => by cases h; obtain ⟨_, _, e, _⟩ := r; rw [e]; rfl
  | .ins _ _ _, _, _, _, h, r => by cases h; obtain ⟨_, _, _, _, e, _⟩ := r; rw [e]; rfl
def Ty.few (t : Ty) : Bool := match t.ar with
  | some n => decide (n ≤ 1000)
  | none => false
theorem rl_few {K : PySem.W.Frag} {mg : Str → Option Value} {t : Ty} {x : t.den} {vs : List V} (h : t.few = true) (r : rl K mg t x vs F) : vs.length ≤ sizeLine := by
  unfold Ty.few at h
  cases e : t.ar with
  | none => rw [e] at h; cases h
  | some n => rw [e] at h; rw [rl_ar e r]; exact len_le' (of_decide_eq_true h)
where len_le' {n : Nat} (h : n ≤ 1000) : n ≤ sizeLine := Nat.le_trans h (by decide)
/-- (a, b, ..) -/
theorem e_tup {fs : Ty} {m : Mx fs.den} {k : Nat} (h : EA X W Γ es fs m) (hl : fs.few = true := by rfl) : EM X W Γ (.Tuple es k pos) (.tup fs) m := pe_imp (pe_tup h) fun σ H Q ⟨F, s, d, q⟩ =>
  ⟨F, s, d, q.mono fun x px vs F1 H1 e1 r1 => ⟨rl_few hl r1, fun p np => by
    have e2 := Ext.new (o := .tup vs) e1.i np
    exact px (.ref p) (upd F1 p (.tup vs)) (upd H1 p (.tup vs)) (e1.trans e2) ⟨p, vs, rfl, SqT.of upd_same, rl_mono e2.f fs x vs r1⟩⟩⟩
/-- [a, b, ..] of many kinds -/
theorem e_hl {fs : Ty} {m : Mx fs.den} (h : EA X W Γ es fs m) (hl : fs.few = true := by rfl) : EM X W Γ (.List es pos) (.hl fs) m := pe_imp (pe_lst h) fun σ H Q ⟨F, s, d, q⟩ =>
  ⟨F, s, d, q.mono fun x px vs F1 H1 e1 r1 => ⟨rl_few hl r1, fun p np => by
    have e2 := Ext.new (o := .lst vs) e1.i np
    exact px (.ref p) (upd F1 p (.lst vs)) (upd H1 p (.lst vs)) (e1.trans e2) ⟨p, vs, rfl, upd_same, rl_mono e2.f fs x vs r1⟩⟩⟩
/-- items of one kind -/
def tL (mg : Str → Option Value) (K : PySem.W.Frag) (W : WX) (Γ : Ctx) (t : Ty) (n : Nat) (m : Mx (List t.den)) : TA := fun σ H Q => ∃ F, Same F H ∧ SD K mg Γ σ F ∧
  post mg W σ m F H fun x => ∀ vs F' H', Ext F H F' H' → all2 (fun y v => rl K mg t y [v] F') x vs → vs.length = n → Q vs H'
abbrev EL (X : Cx) (W : WX) (Γ : Ctx) (es : List Expr) (t : Ty) (n : Nat) (m : Mx (List t.den)) : Prop := PA X es (tL X.mg X.K W Γ t n m)
theorem el_nil : EL X W Γ [] t 0 (.ok []) := pa_imp pa_nil fun σ H Q ⟨F, s, d, p⟩ => p [] F H (Ext.refl s) True.intro rfl
theorem el_cons {n : Nat} {m : Mx t.den} {ms : Mx (List t.den)} (ha : EM X W Γ a t m) (hr : EL X W Γ es t n ms) (hs : starEach (a :: es) X.env = (false, eval a X.env) :: starEach es X.env := by rfl) :
    EL X W Γ (a :: es) t (n + 1) (m >>= fun x => ms >>= fun y => .ok (x :: y)) := pa_imp (pa_cons ha hr hs) fun σ H Q ⟨F, s, d, p⟩ => by
  refine ⟨F, s, d, p.bind.mono fun x px v F1 H1 e1 r1 => ⟨F1, e1.i, d.mono e1.f, post.ext e1 px.bind fun y py vs F2 H2 e2 r2 hn => ?_⟩⟩
  exact py (v :: vs) F2 H2 (e1.trans e2) ⟨rl_mono e2.f t x _ r1, r2⟩ (congrArg (· + 1) hn)
/-- a new list of data -/
theorem rtr_new {K : PySem.W.Frag} {mg : Str → Option Value} {xs : List t.den} {vs : List V} {p : Addr} {F' H0 : Hp} (r : all2 (fun y v => rl K mg t y [v] F') xs vs) (hF : Same F' H) (h0 : Same H0 H) (np : H p = none) :
    rtr K mg (.o (.l (.d t))) xs (.ref p) H0 F' (upd H p (.lst vs)) :=
  ⟨[p], ⟨p, vs, xs.map fun _ => [], rfl, by rw [flat_nil], upd_same, all3.of2 (fun x v q => ⟨rfl, q⟩) r⟩, by simp, fun a ha => by
    rw [List.mem_singleton.mp ha]; exact ⟨hF.free np, h0.free np⟩⟩
theorem e_lst {n : Nat} {m : Mx (List t.den)} (h : EL X W Γ es t n m) (hl : n ≤ 1000 := by decide) : EO X W Γ (.List es pos) (.l (.d t)) m := pe_imp (pe_lst h) fun σ H Q ⟨F, s, d, q⟩ =>
  ⟨F, s, d, q.mono fun x px vs F1 H1 e1 r1 hn => ⟨Nat.le_trans (by rw [hn]; exact hl) (by decide), fun p np =>
    px (.ref p) F1 _ (e1.trans (Ext.cell e1.i np)) (rtr_new r1 e1.i e1.h np)⟩⟩

/-! ## built-in functions -/
theorem e_abs {q : Pos} {m : Mx Int} (hg : Gl X "abs") (hm : X.mg "abs" = none) (ha : EM X W Γ a .int m) (hs : starEach [a] X.env = (false, eval a X.env) :: starEach [] X.env := by rfl) : EM X W Γ (.Call (.Name "abs" q) [a] [] pos) .int (m >>= fun x => .ok (if x < 0 then -x else x)) :=
  pe_imp (pe_callB call_abs hg hm (by decide +kernel) (ea_one ha hs) (he := hs)) (args_of (ts := .int) (r := .d .int) (k := fun x => .ok (if x < 0 then -x else x)) fun x vs F H σ Q s r1 k => by
    cases (show vs = _ from r1)
    exact ⟨x, rfl, k _ F H (Ext.refl s) rfl⟩)
theorem e_intI {q : Pos} {m : Mx Int} (hg : Gl X "int") (hm : X.mg "int" = none) (ha : EM X W Γ a .int m) (hs : starEach [a] X.env = (false, eval a X.env) :: starEach [] X.env := by rfl) : EM X W Γ (.Call (.Name "int" q) [a] [] pos) .int m :=
  pe_imp (pe_callTy call_int1 hg hm (by decide +kernel) (ea_one ha hs) (he := hs)) fun σ H Q ⟨F, s, d, p⟩ => ⟨F, s, d, p.mono fun x px vs F1 H1 e1 r1 => by
    cases (show vs = _ from r1)
    exact .inl ⟨x, rfl, px _ F1 H1 e1 rfl⟩⟩
theorem e_intB {q : Pos} {m : Mx Bool} (hg : Gl X "int") (hm : X.mg "int" = none) (ha : EM X W Γ a .bool m) (hs : starEach [a] X.env = (false, eval a X.env) :: starEach [] X.env := by rfl) : EM X W Γ (.Call (.Name "int" q) [a] [] pos) .int (m >>= fun x => .ok (if x then 1 else 0)) :=
  pe_imp (pe_callTy call_int1 hg hm (by decide +kernel) (ea_one ha hs) (he := hs)) (args_of (ts := .bool) (r := .d .int) (k := fun x => .ok (if x then 1 else 0)) fun x vs F H σ Q s r1 k => by
    cases (show vs = _ from r1)
    exact .inr ⟨x, rfl, k _ F H (Ext.refl s) rfl⟩)
theorem e_max2 {q : Pos} {m1 m2 : Mx Int} (hc : X.calm = true) (hg : Gl X "max") (hm : X.mg "max" = none) (ha : EM X W Γ a .int m1) (hb : EM X W Γ b .int m2) (hs : starEach [a, b] X.env = (false, eval a X.env) :: starEach [b] X.env := by rfl) (hs2 : starEach [b] X.env = (false, eval b X.env) :: starEach [] X.env := by rfl)
    (hp : (backTo pos (starEach [b] X.env)).any (·.1) = false := by rfl) : EM X W Γ (.Call (.Name "max" q) [a, b] [] pos) .int (m1 >>= fun x => m2 >>= fun y => .ok (if y > x then y else x)) :=
  pe_imp (pe_callB (call_max2 hc) hg hm (by decide +kernel) (pa_cons ha (pa_cons hb pa_nil hs2) hs) (he := hs) (hpl := hp)) (two_of (t1 := .int) (t2 := .int) (r := .d .int) (k := fun x y => .ok (if y > x then y else x)) (rR := fun v w H Q => ∃ i j, [v, w] = [V.int i, V.int j] ∧ Q (.int (if j > i then j else i)) H) fun x y v w F H σ Q s r1 r2 k => by
    cases (List.cons.inj (show [v] = _ from r1)).1
    cases (List.cons.inj (show [w] = _ from r2)).1
    exact ⟨x, y, rfl, k _ F H (Ext.refl s) rfl⟩)
theorem e_min2 {q : Pos} {m1 m2 : Mx Int} (hc : X.calm = true) (hg : Gl X "min") (hm : X.mg "min" = none) (ha : EM X W Γ a .int m1) (hb : EM X W Γ b .int m2) (hs : starEach [a, b] X.env = (false, eval a X.env) :: starEach [b] X.env := by rfl) (hs2 : starEach [b] X.env = (false, eval b X.env) :: starEach [] X.env := by rfl)
    (hp : (backTo pos (starEach [b] X.env)).any (·.1) = false := by rfl) : EM X W Γ (.Call (.Name "min" q) [a, b] [] pos) .int (m1 >>= fun x => m2 >>= fun y => .ok (if y < x then y else x)) :=
  pe_imp (pe_callB (call_min2 hc) hg hm (by decide +kernel) (pa_cons ha (pa_cons hb pa_nil hs2) hs) (he := hs) (hpl := hp)) (two_of (t1 := .int) (t2 := .int) (r := .d .int) (k := fun x y => .ok (if y < x then y else x)) (rR := fun v w H Q => ∃ i j, [v, w] = [V.int i, V.int j] ∧ Q (.int (if j < i then j else i)) H) fun x y v w F H σ Q s r1 r2 k => by
    cases (List.cons.inj (show [v] = _ from r1)).1
    cases (List.cons.inj (show [w] = _ from r2)).1
    exact ⟨x, y, rfl, k _ F H (Ext.refl s) rfl⟩)
theorem e_lenL {q : Pos} {m : Mx (List t.den)} (hg : Gl X "len") (hm : X.mg "len" = none) (ha : EM X W Γ a (.list t) m) (hs : starEach [a] X.env = (false, eval a X.env) :: starEach [] X.env := by rfl) : EM X W Γ (.Call (.Name "len" q) [a] [] pos) .int (m >>= fun x => .ok (x.length : Int)) :=
  pe_imp (pe_callB call_len_seq hg hm (by decide +kernel) (ea_one ha hs) (he := hs)) (args_of (ts := .list t) (r := .d .int) (k := fun x => .ok (x.length : Int)) fun x vs F H σ Q s r1 k => by
    obtain ⟨p, ws, rfl, sq, rr⟩ := r1
    exact ⟨p, ws, rfl, .inl (SqL.of (s _ _ sq)), k _ F H (Ext.refl s) (by show _ = _; rw [rr.len])⟩)
theorem e_lenT {q : Pos} {m : Mx (List t.den)} (hg : Gl X "len") (hm : X.mg "len" = none) (ha : EM X W Γ a (.vtup t) m) (hs : starEach [a] X.env = (false, eval a X.env) :: starEach [] X.env := by rfl) : EM X W Γ (.Call (.Name "len" q) [a] [] pos) .int (m >>= fun x => .ok (x.length : Int)) :=
  pe_imp (pe_callB call_len_seq hg hm (by decide +kernel) (ea_one ha hs) (he := hs)) (args_of (ts := .vtup t) (r := .d .int) (k := fun x => .ok (x.length : Int)) fun x vs F H σ Q s r1 k => by
    obtain ⟨p, ws, rfl, sq, rr⟩ := r1
    exact ⟨p, ws, rfl, .inr (sqT_same s sq), k _ F H (Ext.refl s) (by show _ = _; rw [rr.len])⟩)
def lenS (x : Str) : Option Int := if x.length ≤ sizeLine then some (x.length : Int) else none
theorem e_lenS {q : Pos} {m : Mx Str} (hg : Gl X "len") (hm : X.mg "len" = none) (ha : EM X W Γ a .str m) (hs : starEach [a] X.env = (false, eval a X.env) :: starEach [] X.env := by rfl) : EM X W Γ (.Call (.Name "len" q) [a] [] pos) .int (m >>= fun x => ofO (lenS x)) :=
  pe_imp (pe_callB call_len_str hg hm (by decide +kernel) (ea_one ha hs) (he := hs)) (args_of (ts := .str) (r := .d .int) (k := fun x => ofO (lenS x)) fun x vs F H σ Q s r1 k => by
    cases (show vs = _ from r1)
    unfold lenS at k
    by_cases h : x.length ≤ sizeLine
    · rw [if_pos h] at k; exact ⟨x, rfl, h, k _ F H (Ext.refl s) rfl⟩
    · rw [if_neg h] at k; exact k.elim)
theorem e_listL {q : Pos} {m : Mx (List t.den)} (hg : Gl X "list") (hm : X.mg "list" = none) (ha : EM X W Γ a (.list t) m) (hs : starEach [a] X.env = (false, eval a X.env) :: starEach [] X.env := by rfl) : EO X W Γ (.Call (.Name "list" q) [a] [] pos) (.l (.d t)) m :=
  pe_imp (pe_callTy call_list_of hg hm (by decide +kernel) (ea_one ha hs) (he := hs)) fun σ H Q ⟨F, s, d, p⟩ => ⟨F, s, d, p.mono fun x px vs F1 H1 e1 r1 => by
    obtain ⟨a', ws, rfl, sq, rr⟩ := r1
    exact ⟨a', ws, rfl, .inl (SqL.of (e1.i _ _ sq)), fun l nl => px (.ref l) F1 _ (e1.trans (Ext.cell e1.i nl)) (rtr_new rr e1.i e1.h nl)⟩⟩
theorem e_listT {q : Pos} {m : Mx (List t.den)} (hg : Gl X "list") (hm : X.mg "list" = none) (ha : EM X W Γ a (.vtup t) m) (hs : starEach [a] X.env = (false, eval a X.env) :: starEach [] X.env := by rfl) : EO X W Γ (.Call (.Name "list" q) [a] [] pos) (.l (.d t)) m :=
  pe_imp (pe_callTy call_list_of hg hm (by decide +kernel) (ea_one ha hs) (he := hs)) fun σ H Q ⟨F, s, d, p⟩ => ⟨F, s, d, p.mono fun x px vs F1 H1 e1 r1 => by
    obtain ⟨a', ws, rfl, sq, rr⟩ := r1
    exact ⟨a', ws, rfl, .inr (sqT_same e1.i sq), fun l nl => px (.ref l) F1 _ (e1.trans (Ext.cell e1.i nl)) (rtr_new rr e1.i e1.h nl)⟩⟩
theorem e_tupL {q : Pos} {m : Mx (List t.den)} (hg : Gl X "tuple") (hm : X.mg "tuple" = none) (ha : EM X W Γ a (.list t) m) (hs : starEach [a] X.env = (false, eval a X.env) :: starEach [] X.env := by rfl) : EM X W Γ (.Call (.Name "tuple" q) [a] [] pos) (.vtup t) m :=
  pe_imp (pe_callTy call_tuple_of hg hm (by decide +kernel) (ea_one ha hs) (he := hs)) fun σ H Q ⟨F, s, d, p⟩ => ⟨F, s, d, p.mono fun x px vs F1 H1 e1 r1 => by
    obtain ⟨a', ws, rfl, sq, rr⟩ := r1
    refine ⟨a', ws, rfl, .inl ⟨SqL.of (e1.i _ _ sq), fun l nl => ?_⟩⟩
    have e2 := Ext.new (o := .tup ws) e1.i nl
    exact px (.ref l) _ _ (e1.trans e2) ⟨l, ws, rfl, SqT.of upd_same, rr.imp fun y v z => rl_mono e2.f t y [v] z⟩⟩
theorem e_tupT {q : Pos} {m : Mx (List t.den)} (hg : Gl X "tuple") (hm : X.mg "tuple" = none) (ha : EM X W Γ a (.vtup t) m) (hs : starEach [a] X.env = (false, eval a X.env) :: starEach [] X.env := by rfl) : EM X W Γ (.Call (.Name "tuple" q) [a] [] pos) (.vtup t) m :=
  pe_imp (pe_callTy call_tuple_of hg hm (by decide +kernel) (ea_one ha hs) (he := hs)) fun σ H Q ⟨F, s, d, p⟩ => ⟨F, s, d, p.mono fun x px vs F1 H1 e1 r1 => by
    obtain ⟨a', ws, rfl, sq, rr⟩ := r1
    exact ⟨a', ws, rfl, .inr ⟨sqT_same e1.i sq, px (.ref a') F1 H1 e1 ⟨a', ws, rfl, sq, rr⟩⟩⟩⟩
theorem all2_bools {K : PySem.W.Frag} {mg : Str → Option Value} : ∀ {bs : List Bool} {ws : List V}, all2 (fun (y : Bool) v => rl K mg .bool y [v] F) bs ws → ws = bs.map V.bl
  | [], [], _ => rfl
  | b :: bs, w :: ws, ⟨h, r⟩ => by cases (List.cons.inj (show [w] = _ from h)).1; rw [all2_bools r]; rfl
  | [], _ :: _, z => z.elim
  | _ :: _, [], z => z.elim
theorem all2_strs {K : PySem.W.Frag} {mg : Str → Option Value} : ∀ {bs : List Str} {ws : List V}, all2 (fun (y : Str) v => rl K mg .str y [v] F) bs ws → ws = bs.map V.str
  | [], [], _ => rfl
  | b :: bs, w :: ws, ⟨h, r⟩ => by cases (List.cons.inj (show [w] = _ from h)).1; rw [all2_strs r]; rfl
  | [], _ :: _, z => z.elim
  | _ :: _, [], z => z.elim
theorem all2_ints {K : PySem.W.Frag} {mg : Str → Option Value} : ∀ {bs : List Int} {ws : List V}, all2 (fun (y : Int) v => rl K mg .int y [v] F) bs ws → ws = bs.map V.int
  | [], [], _ => rfl
  | b :: bs, w :: ws, ⟨h, r⟩ => by cases (List.cons.inj (show [w] = _ from h)).1; rw [all2_ints r]; rfl
  | [], _ :: _, z => z.elim
  | _ :: _, [], z => z.elim
theorem e_all {q : Pos} {m : Mx (List Bool)} (hc : X.calm = true) (hg : Gl X "all") (hm : X.mg "all" = none) (ha : EM X W Γ a (.list .bool) m) (hs : starEach [a] X.env = (false, eval a X.env) :: starEach [] X.env := by rfl) : EM X W Γ (.Call (.Name "all" q) [a] [] pos) .bool (m >>= fun x => .ok (x.all id)) :=
  pe_imp (pe_callB (cr_all hc) hg hm (by decide +kernel) (ea_one ha hs) (he := hs)) (args_of (ts := .list .bool) (r := .d .bool) (k := fun x => .ok (x.all id)) fun x vs F H σ Q s r1 k => by
    obtain ⟨p, ws, rfl, sq, rr⟩ := r1
    cases all2_bools rr
    exact ⟨p, x, rfl, SqL.of (s _ _ sq), k _ F H (Ext.refl s) rfl⟩)
theorem e_any {q : Pos} {m : Mx (List Bool)} (hc : X.calm = true) (hg : Gl X "any") (hm : X.mg "any" = none) (ha : EM X W Γ a (.list .bool) m) (hs : starEach [a] X.env = (false, eval a X.env) :: starEach [] X.env := by rfl) : EM X W Γ (.Call (.Name "any" q) [a] [] pos) .bool (m >>= fun x => .ok (x.any id)) :=
  pe_imp (pe_callB (cr_any hc) hg hm (by decide +kernel) (ea_one ha hs) (he := hs)) (args_of (ts := .list .bool) (r := .d .bool) (k := fun x => .ok (x.any id)) fun x vs F H σ Q s r1 k => by
    obtain ⟨p, ws, rfl, sq, rr⟩ := r1
    cases all2_bools rr
    exact ⟨p, x, rfl, SqL.of (s _ _ sq), k _ F H (Ext.refl s) rfl⟩)
theorem e_sum {q : Pos} {m : Mx (List Int)} (hc : X.calm = true) (hg : Gl X "sum") (hm : X.mg "sum" = none) (ha : EM X W Γ a (.list .int) m) (hs : starEach [a] X.env = (false, eval a X.env) :: starEach [] X.env := by rfl) : EM X W Γ (.Call (.Name "sum" q) [a] [] pos) .int (m >>= fun x => .ok x.sum) :=
  pe_imp (pe_callB (cr_sum hc) hg hm (by decide +kernel) (ea_one ha hs) (he := hs)) (args_of (ts := .list .int) (r := .d .int) (k := fun x => .ok x.sum) fun x vs F H σ Q s r1 k => by
    obtain ⟨p, ws, rfl, sq, rr⟩ := r1
    cases all2_ints rr
    exact ⟨p, x, rfl, SqL.of (s _ _ sq), k _ F H (Ext.refl s) rfl⟩)
/-- what type(x) is of a code -/
def Ty.cls : Ty → Option String
  | .int => some "int"
  | .bool => some "bool"
  | .str => some "str"
  | .non => some "NoneType"
  | .tup _ => some "tuple"
  | .vtup _ => some "tuple"
  | .hl _ => some "list"
  | .list _ => some "list"
  | _ => none
theorem tyx_T {K : PySem.W.Frag} {H : Hp} {a : Addr} {ws : List V} (h : SqT K H a ws) : TyX K H (.ref a) (.type "tuple") := by
  rcases h with (h | ⟨o, h⟩) | ⟨o, its, n, h, c, _⟩
  · exact .base (.tup h)
  · exact .fTuple h
  · exact .kTuple h c
theorem rl_tyx {K : PySem.W.Frag} {mg : Str → Option Value} {t : Ty} {x : t.den} {v : V} {T : String} (h : t.cls = some T) (s : Same F H) (r : rl K mg t x [v] F) : TyX K H v (.type T) := by
  cases t with
  | int => cases h; cases (List.cons.inj (show [v] = _ from r)).1; exact .base (.int _)
  | bool => cases h; cases (List.cons.inj (show [v] = _ from r)).1; exact .base (.bl _)
  | str => cases h; cases (List.cons.inj (show [v] = _ from r)).1; exact .base (.str _)
  | non => cases h; cases (List.cons.inj (show [v] = _ from r)).1; exact .base .non
  | tup fs => cases h; obtain ⟨p, ws, e, sq, _⟩ := r; cases (List.cons.inj e).1; exact tyx_T (sqT_same s sq)
  | vtup fs => cases h; obtain ⟨p, ws, e, sq, _⟩ := r; cases (List.cons.inj e).1; exact tyx_T (sqT_same s sq)
  | hl fs => cases h; obtain ⟨p, ws, e, sq, _⟩ := r; cases (List.cons.inj e).1; exact .base (.lst (s _ _ sq))
  | list fs => cases h; obtain ⟨p, ws, e, sq, _⟩ := r; cases (List.cons.inj e).1; exact .base (.lst (s _ _ sq))
  | _ => cases h
theorem e_isi {q q2 : Pos} {m : Mx t.den} {n : Str} {T T' : String} {res : Bool} (hg : Gl X "isinstance") (hm : X.mg "isinstance" = none) (ha : EM X W Γ a t m) (ht : t.cls = some T) (hn : PE X (.Name n q2) (tC (.ty T'))) (hk : kitB T T' = some res)
    (hs : starEach [a, .Name n q2] X.env = (false, eval a X.env) :: starEach [.Name n q2] X.env := by rfl) : EM X W Γ (.Call (.Name "isinstance" q) [a, .Name n q2] [] pos) .bool (m >>= fun _ => .ok res) :=
  pe_imp (pe_callB call_isi hg hm (by decide +kernel) (pa_cons ha (pa_cons hn pa_nil) hs) (he := hs)) fun σ H Q ⟨F, s, d, p⟩ => ⟨F, s, d, p.bind.mono fun x px v F1 H1 e1 r1 =>
    ⟨v, .ty T', .type T, .type T', res, rfl, .ty T', rl_tyx ht e1.i r1, kit_ty hk, px _ F1 H1 e1 rfl⟩⟩
/-- sep.join(list of texts) -/
def joinO (a : Str) (ys : List Str) : Option Str := if (ys.map (·.length)).sum + ys.length * a.length ≤ 16777216 then some (Txt.join a ys) else none
theorem e_join {m1 : Mx Str} {m2 : Mx (List Str)} (ha : EM X W Γ a .str m1) (hb : EM X W Γ b (.list .str) m2) (hs : starEach [b] X.env = [(false, eval b X.env)] := by rfl) (hbase : attributeBase a "join" X.env (eval a X.env) = eval a X.env := by rfl) (hline : (apos.endLine == pos.line) = true := by rfl) :
    EM X W Γ (.Call (.Attribute a "join" apos) [b] [] pos) .str (m1 >>= fun x => m2 >>= fun y => ofO (joinO x y)) := pe_imp (pe_join ha hb hs hbase hline) fun σ H Q ⟨F, s, d, p⟩ =>
  ⟨F, s, d, p.bind.mono fun x px v F1 H1 e1 r1 => by
    cases (List.cons.inj (show [v] = _ from r1)).1
    refine ⟨⟨x, rfl⟩, F1, e1.i, d.mono e1.f, post.ext e1 px.bind fun y py w F2 H2 e2 r2 => ?_⟩
    obtain ⟨p, ws, e3, sq, rr⟩ := r2
    cases (List.cons.inj e3).1
    cases all2_strs rr
    unfold joinO at py
    by_cases h : (y.map (·.length)).sum + y.length * x.length ≤ 16777216
    · rw [if_pos h] at py
      exact ⟨x, p, y, rfl, rfl, .inl (SqL.of (e2.i _ _ sq)), h, py _ F2 H2 (e1.trans e2) rfl⟩
    · rw [if_neg h] at py; exact py.elim⟩
/-! ## slices -/
theorem p_none : EP' X W Γ none (.ok none) := po_imp po_none fun σ H Q ⟨F, s, d, p⟩ => p F H (Ext.refl s)
theorem p_some {m : Mx Int} (h : EM X W Γ a .int m) : EP' X W Γ (some a) (m >>= fun x => .ok (some x)) := po_imp (po_some h) fun σ H Q ⟨F, s, d, p⟩ => ⟨F, s, d, p.bind.mono fun x px v F1 H1 e1 r1 => by
  cases (List.cons.inj (show [v] = _ from r1)).1
  exact ⟨x, rfl, px F1 H1 e1⟩⟩
theorem sl_of {lo hi : Option Expr} {m1 : Mx t1.den} {ml mh : Mx (Option Int)} {k : t1.den → Option Int → Option Int → Mx r.den} {rR : V → Option Int → Option Int → Hp → VK → Prop} (ho : SlR X rR)
    (hr : ∀ x l u v F H σ Q, Same F H → rl X.K X.mg t1 x [v] F → (post X.mg W σ (k x l u) F H fun z => ∀ u F' H', Ext F H F' H' → rtr X.K X.mg r z u H F' H' → Q u H') → rR v l u H Q)
    (ha : EM X W Γ a t1 m1) (hl : EP' X W Γ lo ml) (hh : EP' X W Γ hi mh) : ER X W Γ (.Subscript a (.Slice lo hi none p2) pos) r (m1 >>= fun x => ml >>= fun l => mh >>= fun u => k x l u) :=
  pe_imp (pe_slice ho ha hl hh) fun σ H Q ⟨F, s, d, p⟩ => ⟨F, s, d, p.bind.mono fun x px v F1 H1 e1 r1 => ⟨F1, e1.i, d.mono e1.f, post.ext e1 px.bind fun l pl F2 H2 e2 => ⟨F2, e2.i, d.mono (e1.f.trans e2.f), post.ext (e1.trans e2) pl.bind fun u pu F3 H3 e3 => by
    refine hr x l u v F3 H3 σ Q e3.i (rl_mono (e2.f.trans e3.f) t1 x _ r1) ?_
    exact post.ext ((e1.trans e2).trans e3) pu fun z pz w F4 H4 e4 r4 => pz w F4 H4 (((e1.trans e2).trans e3).trans e4) (rtr_pre ((e1.h.trans e2.h).trans e3.h) r4)⟩⟩⟩
def cut {α : Type} (xs : List α) (lo hi : Option Int) : List α := (xs.drop (HT.sIx xs.length 0 lo)).take (HT.sIx xs.length xs.length hi - HT.sIx xs.length 0 lo)
theorem cut_cutV {R : t.den → V → Prop} {xs : List t.den} {vs : List V} (h : all2 R xs vs) (lo hi : Option Int) : all2 R (cut xs lo hi) (cutV vs lo hi) := by
  unfold cut cutV
  rw [h.len]
  exact (h.drop _).take _
theorem e_slL {lo hi : Option Expr} {m1 : Mx (List t.den)} {ml mh : Mx (Option Int)} (ha : EM X W Γ a (.list t) m1) (hl : EP' X W Γ lo ml) (hh : EP' X W Γ hi mh) : EO X W Γ (.Subscript a (.Slice lo hi none p2) pos) (.l (.d t)) (m1 >>= fun x => ml >>= fun l => mh >>= fun u => .ok (cut x l u)) :=
  sl_of (t1 := .list t) (r := .o (.l (.d t))) (k := fun x l u => .ok (cut x l u)) sl_list (fun x l u v F H σ Q s r1 k => by
    obtain ⟨p, ws, e, sq, rr⟩ := r1
    cases (List.cons.inj e).1
    exact ⟨p, ws, rfl, SqL.of (s _ _ sq), fun q nq => k (.ref q) F _ (Ext.cell s nq) (rtr_new (cut_cutV (R := fun y v => rl X.K X.mg t y [v] F) rr l u) s (Same.refl _) nq)⟩) ha hl hh
/-- of the script -/
theorem e_slScr {lo hi : Option Expr} {m1 : Mx (List Int)} {ml mh : Mx (Option Int)} (ha : EM X W Γ a .scr m1) (hl : EP' X W Γ lo ml) (hh : EP' X W Γ hi mh) : EO X W Γ (.Subscript a (.Slice lo hi none p2) pos) (.l (.d .int)) (m1 >>= fun x => ml >>= fun l => mh >>= fun u => .ok (cut x l u)) :=
  sl_of (t1 := .scr) (r := .o (.l (.d .int))) (k := fun x l u => .ok (cut x l u)) sl_list (fun x l u v F H σ Q s r1 k => by
    obtain ⟨p, e, sq⟩ := r1
    cases (List.cons.inj e).1
    have rr : ∀ xs : List Int, all2 (fun (y : Int) v => rl X.K X.mg .int y [v] F) xs (xs.map V.int) := fun xs => by
      induction xs with
      | nil => exact True.intro
      | cons y ys ih => exact ⟨rfl, ih⟩
    exact ⟨p, x.map V.int, rfl, s.seq sq, fun q nq => k (.ref q) F _ (Ext.cell s nq) (rtr_new (t := .int) (cut_cutV (t := .int) (R := fun y v => rl X.K X.mg .int y [v] F) (rr x) l u) s (Same.refl _) nq)⟩) ha hl hh
def slS (x : Str) (lo hi : Option Int) : Option Str := if x.length ≤ sizeLine then some (cutS x lo hi) else none
theorem e_slS {lo hi : Option Expr} {m1 : Mx Str} {ml mh : Mx (Option Int)} (ha : EM X W Γ a .str m1) (hl : EP' X W Γ lo ml) (hh : EP' X W Γ hi mh) : EM X W Γ (.Subscript a (.Slice lo hi none p2) pos) .str (m1 >>= fun x => ml >>= fun l => mh >>= fun u => ofO (slS x l u)) :=
  sl_of (t1 := .str) (r := .d .str) (k := fun x l u => ofO (slS x l u)) sl_str (fun x l u v F H σ Q s r1 k => by
    cases (List.cons.inj (show [v] = _ from r1)).1
    unfold slS at k
    by_cases h : x.length ≤ sizeLine
    · rw [if_pos h] at k; exact ⟨x, rfl, h, k _ F H (Ext.refl s) rfl⟩
    · rw [if_neg h] at k; exact k.elim) ha hl hh
/-! ## lists and tuples joined -/
def catL {α : Type} (x y : List α) : Option (List α) := if x.length + y.length ≤ sizeLine then some (x ++ y) else none
theorem e_catL {m1 m2 : Mx (List t.den)} (ha : EM X W Γ a (.list t) m1) (hb : EM X W Γ b (.list t) m2) : EO X W Γ (.BinOp a .Add b pos) (.l (.d t)) (m1 >>= fun x => m2 >>= fun y => ofO (catL x y)) := e_bin (t1 := .list t) (t2 := .list t) (r := .o (.l (.d t))) (g := catL) op_cat (fun x y z e v w F H Q s r1 r2 k => by
  unfold catL at e
  by_cases h : x.length + y.length ≤ sizeLine
  · rw [if_pos h] at e
    cases e
    obtain ⟨p, ws, e1, sq1, rr1⟩ := r1
    cases (List.cons.inj e1).1
    obtain ⟨q, zs, e2, sq2, rr2⟩ := r2
    cases (List.cons.inj e2).1
    exact ⟨p, q, ws, zs, rfl, rfl, s _ _ sq1, s _ _ sq2, by rw [← rr1.len, ← rr2.len]; exact h, fun l nl => k (.ref l) F _ (Ext.cell s nl) (rtr_new (rr1.app rr2) s (Same.refl _) nl)⟩
  · rw [if_neg h] at e; cases e) ha hb
end
end Gm
set_option Elab.async false
set_option linter.all false
set_option maxRecDepth 100000
set_option maxHeartbeats 4000000
namespace Gm
open PySem PySem.Spec L2

/-! ## several places at once -/
def setL {α : Type} : List α → List Nat → List α → List α
  | l, i :: is, a :: as => setL (l.set i a) is as
  | l, _, _ => l
theorem setL_len {α : Type} : ∀ {is : List Nat} {l as : List α}, (setL l is as).length = l.length
  | [], _, [] => rfl
  | [], _, _ :: _ => rfl
  | _ :: _, _, [] => rfl
  | i :: is, l, a :: as => by
    show (setL (l.set i a) is as).length = _
    rw [setL_len, List.length_set]
theorem setL_app {α : Type} : ∀ {is js : List Nat} {l as bs : List α}, is.length = as.length → setL l (is ++ js) (as ++ bs) = setL (setL l is as) js bs
  | [], _, _, [], _, _ => rfl
  | _ :: is, js, l, a :: as, bs, h => setL_app (is := is) (l := l.set _ a) (Nat.succ.inj h)
  | [], _, _, _ :: _, _, h => by cases h
  | _ :: _, _, _, [], _, h => by cases h
section
variable (K : PySem.W.Frag) (mg : Str → Option Value)
/-- slots and what they get -/
def bdL : List Slot → List V → Hp → Prop
  | [], [], _ => True
  | .d t x :: ss, v :: vs, F => rl K mg t x [v] F ∧ bdL ss vs F
  | _, _, _ => False
/-- a target of data of the code t: the slots is become S x -/
def gR (t : Ty) (is : List Nat) (S : t.den → List Slot) : TG := fun v σ H Q => ∃ x F, Same F H ∧ rl K mg t x [v] F ∧ ∀ ws, is.length = ws.length → bdL K mg (S x) ws F → Q (setL σ is (ws.map some)) H
/-- several targets -/
def gRs (t : Ty) (is : List Nat) (S : t.den → List Slot) : TGs := fun vs σ H Q => ∃ x F, Same F H ∧ rl K mg t x vs F ∧ ∀ ws, is.length = ws.length → bdL K mg (S x) ws F → Q (setL σ is (ws.map some)) H
end
abbrev GT (X : Cx) (tg : Expr) (t : Ty) (is : List Nat) (S : t.den → List Slot) : Prop := PG X tg (gR X.K X.mg t is S)
abbrev GTs (X : Cx) (tg : List Expr) (t : Ty) (is : List Nat) (S : t.den → List Slot) : Prop := PGs X tg (gRs X.K X.mg t is S)
section
variable {K : PySem.W.Frag} {mg : Str → Option Value} {F F' : Hp}
theorem bdL_app : ∀ {ss tt : List Slot} {vs ws : List V}, bdL K mg ss vs F → bdL K mg tt ws F → bdL K mg (ss ++ tt) (vs ++ ws) F
  | [], _, [], _, _, h => h
  | .d _ _ :: ss, _, _ :: vs, _, ⟨a, b⟩, h => ⟨a, bdL_app b h⟩
  | [], _, _ :: _, _, z, _ => z.elim
  | .d _ _ :: _, _, [], _, z, _ => z.elim
  | .no :: _, _, _, _, z, _ => z.elim
  | .o _ _ :: _, _, _, _, z, _ => z.elim
theorem bdL_mono (h : Same F F') : ∀ {ss : List Slot} {vs : List V}, bdL K mg ss vs F → bdL K mg ss vs F'
  | [], [], _ => True.intro
  | .d t x :: ss, v :: vs, ⟨a, b⟩ => ⟨rl_mono h t x _ a, bdL_mono h b⟩
  | [], _ :: _, z => z.elim
  | .d _ _ :: _, [], z => z.elim
  | .no :: _, _, z => z.elim
  | .o _ _ :: _, _, z => z.elim
theorem bdL_len : ∀ {ss : List Slot} {vs : List V}, bdL K mg ss vs F → ss.length = vs.length
  | [], [], _ => rfl
  | .d _ _ :: ss, _ :: vs, ⟨_, b⟩ => congrArg (· + 1) (bdL_len b)
  | [], _ :: _, z => z.elim
  | .d _ _ :: _, [], z => z.elim
  | .no :: _, _, z => z.elim
  | .o _ _ :: _, _, z => z.elim
end
section
variable {X : Cx} {tg e : Expr} {es : List Expr} {pos p : Pos} {t t1 t2 : Ty}
theorem pg_imp {g g' : TG} (h : PG X tg g) (i : ∀ v σ H Q, g' v σ H Q → g v σ H Q) : PG X tg g' := ⟨fun pins s σ H v u Q I r q => h.run pins s σ H v u Q I r (i v σ H Q q)⟩
theorem pgs_imp {g g' : TGs} (h : PGs X es g) (i : ∀ v σ H Q, g' v σ H Q → g v σ H Q) : PGs X es g' := ⟨fun pins s σ H v u Q I r q => h.run pins s σ H v u Q I r (i v σ H Q q)⟩
theorem g_nm (i : Nat) (h : PG X tg (gName i)) : GT X tg t [i] (fun x => [.d t x]) := pg_imp h fun v σ H Q ⟨x, F, s, r, k⟩ => k [v] rfl ⟨r, True.intro⟩
theorem gs_one {is : List Nat} {S : t.den → List Slot} (h : GT X tg t is S) (ht : t.sing = true := by rfl) (hs : (assignEach [tg] X.env).map (·.2) = assign tg X.env :: (assignEach [] X.env).map (·.2) := by rfl) : GTs X [tg] t is S :=
  pgs_imp (pgs_cons h pgs_nil hs) fun vs σ H Q ⟨x, F, s, r, k⟩ => by
    obtain ⟨v, rfl⟩ := rl_sing ht r
    exact ⟨v, [], rfl, x, F, s, r, fun ws hl hb => ⟨rfl, k ws hl hb⟩⟩
theorem gs_cons {is js : List Nat} {S : t1.den → List Slot} {T : t2.den → List Slot} (h : GT X tg t1 is S) (hr : GTs X es t2 js T) (hs : (assignEach (tg :: es) X.env).map (·.2) = assign tg X.env :: (assignEach es X.env).map (·.2) := by rfl) :
    GTs X (tg :: es) (.pr t1 t2) (is ++ js) (fun x => S x.1 ++ T x.2) := pgs_imp (pgs_cons h hr hs) fun vs σ H Q ⟨x, F, s, r, k⟩ => by
    obtain ⟨v, r', rfl, q1, q2⟩ := r
    exact ⟨v, r', rfl, x.1, F, s, q1, fun ws hl hb => ⟨x.2, F, s, q2, fun zs hl' hb' => by
      rw [← setL_app (by rw [List.length_map]; exact hl), ← List.map_append]
      exact k (ws ++ zs) (by rw [List.length_append, List.length_append, hl, hl']) (bdL_app hb hb')⟩⟩
theorem g_tup {is : List Nat} {S : t.den → List Slot} {k n : Nat} (hc : X.calm = true) (h : GTs X es t is S) (har : t.ar = some n := by rfl) (hn : (assignEach es X.env).length = n := by rfl) (hst : (assignEach es X.env).findIdx? (·.1) = none := by rfl) : GT X (.Tuple es k pos) (.tup t) is S :=
  pg_imp (pg_tup hc h hn hst) fun v σ H Q ⟨x, F, s, r, kk⟩ => by
    obtain ⟨a, ws, e, sq, rr⟩ := r
    exact ⟨a, ws, (List.cons.inj e).1, sqT_same s sq, rl_ar har rr, x, F, s, rr, kk⟩
theorem g_hl {is : List Nat} {S : t.den → List Slot} {k n : Nat} (hc : X.calm = true) (h : GTs X es t is S) (har : t.ar = some n := by rfl) (hn : (assignEach es X.env).length = n := by rfl) (hst : (assignEach es X.env).findIdx? (·.1) = none := by rfl) : GT X (.Tuple es k pos) (.hl t) is S :=
  pg_imp (pg_lst hc h hn hst) fun v σ H Q ⟨x, F, s, r, kk⟩ => by
    obtain ⟨a, ws, e, sq, rr⟩ := r
    exact ⟨a, ws, (List.cons.inj e).1, SqL.of (s _ _ sq), rl_ar har rr, x, F, s, rr, kk⟩
end

/-! ## what is walked -/
structure Wlk (K : PySem.W.Frag) (mg : Str → Option Value) (t : Ty) (J : It) (xs : List t.den) (F : Hp) : Prop where
  go : ∀ i H, Same F H → i < xs.length → J.go i H
  stop : ∀ i H, Same F H → xs.length ≤ i → J.stop i H
  yld : ∀ i H v H3, Same F H → i < xs.length → J.yld i H v H3 → ∃ x, xs[i]? = some x ∧ ∀ G, Same F G → Same G H → ∃ G', Ext G H G' H3 ∧ rl K mg t x [v] G'
def tI (mg : Str → Option Value) (K : PySem.W.Frag) (W : WX) (Γ : Ctx) (t : Ty) (m : Mx (List t.den)) : TI := fun σ H R => ∃ F, Same F H ∧ SD K mg Γ σ F ∧
  post mg W σ m F H fun xs => ∀ F' H' J, Ext F H F' H' → Wlk K mg t J xs F' → R J H'
abbrev EI (X : Cx) (W : WX) (Γ : Ctx) (tg iter : Expr) (t : Ty) (m : Mx (List t.den)) : Prop := PI X tg iter (tI X.mg X.K W Γ t m)
theorem pi_imp {X : Cx} {tg it : Expr} {w w' : TI} (h : PI X tg it w) (i : ∀ σ H R, w' σ H R → w σ H R) : PI X tg it w' := ⟨fun pins s σ H R I q => h.run pins s σ H R I (i σ H R q)⟩
section
variable {X : Cx} {W : WX} {Γ : Ctx} {tg a b : Expr} {pos p : Pos} {t : Ty}
theorem i_list {m : Mx (List t.den)} (ha : EM X W Γ a (.list t) m) : EI X W Γ tg a t m := pi_imp (pi_list ha) fun σ H R ⟨F, s, d, q⟩ => ⟨F, s, d, q.mono fun x px v F1 H1 e1 r1 => by
  obtain ⟨l, ws, e, sq, rr⟩ := r1
  refine ⟨l, (List.cons.inj e).1, ⟨ws, SqL.of (e1.i _ _ sq)⟩, px F1 H1 _ e1 ⟨fun i H s hi => ?_, fun i H s hi => ⟨ws, SqL.of (s _ _ sq), by rw [← rr.len]; exact hi⟩, fun i H v H3 s _ y => ?_⟩⟩
  · obtain ⟨v, h1, _⟩ := rr.get (List.getElem?_eq_getElem hi)
    exact ⟨ws, v, SqL.of (s _ _ sq), h1⟩
  · obtain ⟨rfl, y⟩ := y
    obtain ⟨z, h1, h2⟩ := rr.getV (y ws (SqL.of (s _ _ sq)))
    exact ⟨z, h1, fun G g1 g2 => ⟨G, Ext.refl g2, rl_mono g1 t z _ h2⟩⟩⟩
theorem i_vtup {m : Mx (List t.den)} (ha : EM X W Γ a (.vtup t) m) : EI X W Γ tg a t m := pi_imp (pi_tup ha) fun σ H R ⟨F, s, d, q⟩ => ⟨F, s, d, q.mono fun x px v F1 H1 e1 r1 => by
  obtain ⟨l, ws, e, sq, rr⟩ := r1
  refine ⟨l, (List.cons.inj e).1, ⟨ws, sqT_same e1.i sq⟩, px F1 H1 _ e1 ⟨fun i H s hi => ?_, fun i H s hi => ⟨ws, sqT_same s sq, by rw [← rr.len]; exact hi⟩, fun i H v H3 s _ y => ?_⟩⟩
  · obtain ⟨v, h1, _⟩ := rr.get (List.getElem?_eq_getElem hi)
    exact ⟨ws, v, sqT_same s sq, h1⟩
  · obtain ⟨rfl, y⟩ := y
    obtain ⟨z, h1, h2⟩ := rr.getV (y ws (sqT_same s sq))
    exact ⟨z, h1, fun G g1 g2 => ⟨G, Ext.refl g2, rl_mono g1 t z _ h2⟩⟩⟩
def iran (lo hi : Int) : List Int := (List.range (hi - lo).toNat).map fun (k : Nat) => lo + (k : Int)
def ranO (lo hi : Int) : Option (List Int) := if -(2 ^ 62) ≤ lo ∧ lo < 2 ^ 62 ∧ -(2 ^ 62) ≤ hi ∧ hi < 2 ^ 62 then some (iran lo hi) else none
theorem wlk_ran {K : PySem.W.Frag} {mg : Str → Option Value} {lo hi : Int} (F : Hp) : Wlk K mg .int (Itr lo (hi - lo).toNat) (iran lo hi) F := by
  have hl : (iran lo hi).length = (hi - lo).toNat := by simp [iran]
  refine ⟨fun i H _ h => by rw [hl] at h; exact h, fun i H _ h => by rw [hl] at h; exact h, fun i H v H3 s hi y => ?_⟩
  obtain ⟨rfl, rfl⟩ := y
  refine ⟨lo + (i : Int), ?_, fun G g1 g2 => ⟨G, Ext.refl g2, rfl⟩⟩
  rw [hl] at hi
  simp [iran, hi]
theorem i_ran1 {m : Mx Int} (hg : Gl X "range") (hm : X.mg "range" = none) (ha : EM X W Γ a .int m) (hs : starEach [a] X.env = [(false, eval a X.env)] := by rfl) : EI X W Γ tg (.Call (.Name "range" p) [a] [] pos) .int (m >>= fun n => ofO (ranO 0 n)) :=
  pi_imp (pi_range1 hg hm (ea_one ha hs) hs) fun σ H R ⟨F, s, d, q⟩ => ⟨F, s, d, q.bind.mono fun x px vs F1 H1 e1 r1 => by
    cases (show vs = _ from r1)
    unfold ranO at px
    split at px
    · rename_i h
      refine ⟨x, rfl, h.2.2.1, h.2.2.2, ?_⟩
      have := wlk_ran (K := X.K) (mg := X.mg) (lo := 0) (hi := x) F1
      rw [Int.sub_zero] at this
      exact px F1 H1 _ e1 this
    · exact px.elim⟩
theorem i_ran2 {m1 m2 : Mx Int} (hg : Gl X "range") (hm : X.mg "range" = none) (ha : EM X W Γ a .int m1) (hb : EM X W Γ b .int m2) (hs : starEach [a, b] X.env = [(false, eval a X.env), (false, eval b X.env)] := by rfl) (hs2 : starEach [b] X.env = [(false, eval b X.env)] := by rfl) :
    EI X W Γ tg (.Call (.Name "range" p) [a, b] [] pos) .int (m1 >>= fun l => m2 >>= fun n => ofO (ranO l n)) :=
  pi_imp (pi_range2 hg hm (pa_cons ha (pa_cons hb pa_nil hs2) (by rw [hs, hs2])) hs hs2) fun σ H R ⟨F, s, d, q⟩ => ⟨F, s, d, q.bind.mono fun x px v F1 H1 e1 r1 => ⟨F1, e1.i, d.mono e1.f, post.ext e1 px.bind fun y py w F2 H2 e2 r2 => by
    cases (List.cons.inj (show [v] = _ from r1)).1
    cases (List.cons.inj (show [w] = _ from r2)).1
    unfold ranO at py
    split at py
    · rename_i h
      exact ⟨x, y, rfl, ⟨h.1, h.2.1, h.2.2.1, h.2.2.2⟩, py F2 H2 _ (e1.trans e2) (wlk_ran F2)⟩
    · exact py.elim⟩⟩
end

/-! ## comprehensions -/
def optC {β : Type} (o : Option β) (r : List β) : List β := o.toList ++ r
def compL {α β : Type} : List α → (α → Mx (Option β)) → Mx (List β)
  | [], _ => .ok []
  | x :: xs, f => match f x with
    | .ok o => compL xs f >>= fun r => .ok (optC o r)
    | _ => .no
def compO {α β : Type} (xs : List α) (f : α → Mx (Option β)) : Mx (List β) := if xs.length ≤ sizeLine then compL xs f else .no
def W0 : WX := fun _ _ _ _ => False
/-- the tests of a comprehension -/
abbrev ETs (X : Cx) (W : WX) (Γ : Ctx) (es : List Expr) (m : Mx Bool) : Prop := PTs X es (tT X.mg X.K W Γ m)
section
variable {X : Cx} {W : WX} {Γ : Ctx} {tg a b : Expr} {pos p : Pos} {t t1 : Ty}
theorem pts_imp {es : List Expr} {t t' : TT} (h : PTs X es t) (i : ∀ σ H Q, t' σ H Q → t σ H Q) : PTs X es t' := ⟨fun pins s σ H Q I q => h.run pins s σ H Q I (i σ H Q q)⟩
theorem ts_nil : ETs X W Γ [] (.ok true) := pts_imp pts_nil fun σ H Q ⟨F, s, d, q⟩ => q F H (Ext.refl s)
theorem ts_one {m : Mx Bool} (h : ET X W Γ a m) : ETs X W Γ [a] m := pts_one h
theorem pe_ex {α : Type} {e : Expr} {t : α → TE} (h : ∀ x, PE X e (t x)) : PE X e (fun σ H Q => ∃ x, t x σ H Q) := ⟨fun pins s σ H Q I ⟨x, q⟩ => (h x).run pins s σ H Q I q⟩
theorem pts_ex {α : Type} {es : List Expr} {t : α → TT} (h : ∀ x, PTs X es (t x)) : PTs X es (fun σ H Q => ∃ x, t x σ H Q) := ⟨fun pins s σ H Q I ⟨x, q⟩ => (h x).run pins s σ H Q I q⟩
def wipeC (Γ : Ctx) : List Nat → Ctx
  | [] => Γ
  | v :: vs => (wipeC Γ vs).set v .no
theorem wipe_get {σ : L2.St} {j : Nat} : ∀ {vs : List Nat}, (wipe σ vs)[j]? = if j ∈ vs ∧ j < σ.length then some none else σ[j]?
  | [] => by simp [wipe]
  | v :: vs => by
    unfold wipe
    by_cases hj : v = j
    · subst hj
      by_cases hl : v < σ.length
      · rw [List.getElem?_set_self (by rw [wipe_length]; exact hl), if_pos ⟨List.mem_cons_self .., hl⟩]
      · rw [if_neg fun z => hl z.2, List.getElem?_eq_none (by rw [List.length_set, wipe_length]; omega), List.getElem?_eq_none (by omega)]
    · rw [List.getElem?_set_ne hj, wipe_get (vs := vs)]
      by_cases hm : j ∈ vs ∧ j < σ.length
      · rw [if_pos hm, if_pos ⟨List.mem_cons_of_mem _ hm.1, hm.2⟩]
      · rw [if_neg hm, if_neg fun z => hm ⟨(List.mem_cons.mp z.1).resolve_left fun q => hj q.symm, z.2⟩]
theorem setL_get_ne {α : Type} {j : Nat} : ∀ {is : List Nat} {l as : List α}, j ∉ is → (setL l is as)[j]? = l[j]?
  | [], _, [], _ => rfl
  | [], _, _ :: _, _ => rfl
  | _ :: _, _, [], _ => rfl
  | i :: is, l, a :: as, h => by
    show (setL (l.set i a) is as)[j]? = _
    rw [setL_get_ne fun z => h (List.mem_cons_of_mem _ z), List.getElem?_set_ne fun z => h (by rw [z]; exact List.mem_cons_self ..)]
theorem wipe_setL {σ : L2.St} {vs is : List Nat} {ws : List (Option V)} (h : ∀ i ∈ is, i ∈ vs) : wipe (setL (wipe σ vs) is ws) vs = wipe σ vs := by
  apply List.ext_getElem?
  intro j
  rw [wipe_get, wipe_get, setL_len, wipe_length]
  by_cases hm : j ∈ vs ∧ j < σ.length
  · rw [if_pos hm, if_pos hm]
  · rw [if_neg hm, if_neg hm]
    by_cases hj : j ∈ vs
    · have hl : ¬ j < σ.length := fun z => hm ⟨hj, z⟩
      rw [List.getElem?_eq_none (by rw [setL_len, wipe_length]; omega), List.getElem?_eq_none (by omega)]
    · rw [setL_get_ne fun z => hj (h j z), wipe_get, if_neg hm]
theorem SD.wipe {K : PySem.W.Frag} {mg : Str → Option Value} {σ : L2.St} {F : Hp} (d : SD K mg Γ σ F) : ∀ vs : List Nat, SD K mg (wipeC Γ vs) (L2.wipe σ vs) F
  | [] => d
  | v :: vs => fun i s e => by
    have e : ((wipeC Γ vs).set v .no)[i]? = some s := e
    unfold L2.wipe
    by_cases hi : v = i
    · subst hi
      have hl : v < (wipeC Γ vs).length := by
        have := (List.getElem?_eq_some_iff.mp e).1
        rw [List.length_set] at this; exact this
      obtain ⟨ov, e1, _⟩ := d.wipe vs v _ (List.getElem?_eq_getElem hl)
      rw [List.getElem?_set_self hl] at e
      cases e
      exact ⟨none, List.getElem?_set_self (List.getElem?_eq_some_iff.mp e1).1, True.intro⟩
    · rw [List.getElem?_set_ne hi] at e
      obtain ⟨ov, e1, r⟩ := d.wipe vs i s e
      exact ⟨ov, by rw [List.getElem?_set_ne hi]; exact e1, r⟩
theorem SD.set1 {K : PySem.W.Frag} {mg : Str → Option Value} {σ : L2.St} {F : Hp} (d : SD K mg Γ σ F) {i : Nat} {s : Slot} {v : V} (r : sd K mg s (some v) F) : SD K mg (Γ.set i s) (σ.set i (some v)) F := fun j s' e => by
  by_cases hj : i = j
  · subst hj
    have hl : i < Γ.length := by
      have := (List.getElem?_eq_some_iff.mp e).1
      rw [List.length_set] at this; exact this
    obtain ⟨ov, e1, _⟩ := d i _ (List.getElem?_eq_getElem hl)
    rw [List.getElem?_set_self hl] at e
    cases e
    exact ⟨some v, List.getElem?_set_self (List.getElem?_eq_some_iff.mp e1).1, r⟩
  · rw [List.getElem?_set_ne hj] at e
    obtain ⟨ov, e1, r'⟩ := d j s' e
    exact ⟨ov, by rw [List.getElem?_set_ne hj]; exact e1, r'⟩
theorem SD.setL {K : PySem.W.Frag} {mg : Str → Option Value} {F : Hp} : ∀ {is : List Nat} {ss : List Slot} {ws : List V} {Γ : Ctx} {σ : L2.St}, SD K mg Γ σ F → bdL K mg ss ws F → SD K mg (Gm.setL Γ is ss) (Gm.setL σ is (ws.map some)) F
  | [], [], [], _, _, d, _ => d
  | [], .d _ _ :: _, _ :: _, _, _, d, _ => d
  | _ :: _, [], [], _, _, d, _ => d
  | i :: is, .d t x :: ss, w :: ws, Γ, σ, d, ⟨a, b⟩ => SD.setL (is := is) (d.set1 (i := i) (s := .d t x) (v := w) ⟨w, rfl, a⟩) b
  | _, [], _ :: _, _, _, _, z => z.elim
  | _, .d _ _ :: _, [], _, _, _, z => z.elim
  | _, .no :: _, _, _, _, _, z => z.elim
  | _, .o _ _ :: _, _, _, _, _, z => z.elim
def compF {α β : Type} (mt : α → Mx Bool) (me : α → Mx β) (x : α) : Mx (Option β) := mt x >>= fun b => if b then me x >>= fun y => .ok (some y) else .ok none
theorem compL_step {α β : Type} {xs : List α} {f : α → Mx (Option β)} {i : Nat} (hi : i < xs.length) {done : List β} (h : compL xs f = (compL (xs.drop i) f >>= fun r => .ok (done ++ r))) (hn : compL xs f ≠ .no) :
    ∃ o, f xs[i] = .ok o ∧ compL xs f = (compL (xs.drop (i + 1)) f >>= fun r => .ok ((done ++ o.toList) ++ r)) := by
  rw [List.drop_eq_getElem_cons hi] at h
  have e : compL (xs[i] :: xs.drop (i + 1)) f = match f xs[i] with
    | .ok o => compL (xs.drop (i + 1)) f >>= fun r => .ok (optC o r)
    | _ => .no := rfl
  rw [e] at h
  cases q : f xs[i] with
  | ex z => rw [q] at h; exact absurd h hn
  | no => rw [q] at h; exact absurd h hn
  | ok o =>
    rw [q] at h
    refine ⟨o, rfl, h.trans ?_⟩
    show ((compL (xs.drop (i + 1)) f >>= fun r => Mx.ok (optC o r)) >>= fun r => Mx.ok (done ++ r)) = _
    cases compL (xs.drop (i + 1)) f with
    | ex z => rfl
    | no => rfl
    | ok r =>
      cases o with
      | none => show Mx.ok (done ++ r) = Mx.ok ((done ++ []) ++ r); rw [List.append_nil]
      | some y => show Mx.ok (done ++ (y :: r)) = Mx.ok ((done ++ [y]) ++ r); rw [List.append_assoc]; rfl
/-- [elt for tg in iter if ..] -/
theorem lc_read {is : List Nat} {S : t.den → List Slot} {mi : Mx (List t.den)} {mt : t.den → Mx Bool} {me : t.den → Mx t1.den} {vs : List Nat} (his : ∀ i ∈ is, i ∈ vs) :
    ∀ σ H Q, tR X.mg X.K W Γ (.o (.l (.d t1))) (mi >>= fun xs => compO xs (compF mt me)) σ H Q →
      tLc (tI X.mg X.K W Γ t mi) (gR X.K X.mg t is S) (fun σ H Q => ∃ x, tT X.mg X.K W0 (setL (wipeC Γ vs) is (S x)) (mt x) σ H Q) (fun σ H Q => ∃ x, tR X.mg X.K W0 (setL (wipeC Γ vs) is (S x)) (.d t1) (me x) σ H Q) vs σ H Q := by
  intro σ H Q ⟨F, s, d, p⟩
  refine ⟨F, s, d, p.bind.mono fun xs pxs F1 H1 J e1 w D nD => ?_⟩
  unfold compO at pxs
  by_cases hz : xs.length ≤ sizeLine
  rotate_left
  · rw [if_neg hz] at pxs; exact pxs.elim
  rw [if_pos hz] at pxs
  have hnd : compL xs (compF mt me) ≠ .no := fun z => by rw [z] at pxs; exact pxs
  have e1D : Ext F1 H1 F1 (upd H1 D (.lst [])) := Ext.cell e1.i nD
  refine ⟨fun i m H' => i ≤ xs.length ∧ m = xs.length - i ∧ ∃ G acc done, Same F1 G ∧ Ext F H G H' ∧ H' D = some (.lst acc) ∧ G D = none ∧ all2 (fun y v => rl X.K X.mg t1 y [v] G) done acc ∧ done.length ≤ i ∧
    compL xs (compF mt me) = (compL (xs.drop i) (compF mt me) >>= fun r => .ok (done ++ r)), ⟨xs.length, Nat.zero_le _, by simp, F1, [], [], Same.refl _, e1.trans e1D, upd_same, e1.i.free nD, True.intro, Nat.le_refl _, ?_⟩, ?_⟩
  · rw [List.drop_zero]
    cases compL xs (compF mt me) <;> rfl
  · rintro i m H' ⟨hi, rfl, G, acc, done, f1, e2, hD, gD, rr, hd, hc⟩
    have f1H : Same F1 H' := f1.trans e2.i
    by_cases hlt : i < xs.length
    · refine .inr ⟨w.go i H' f1H hlt, fun H'' => ∃ m', m' < xs.length - i ∧ (i + 1 ≤ xs.length ∧ m' = xs.length - (i + 1) ∧ ∃ G acc done, Same F1 G ∧ Ext F H G H'' ∧ H'' D = some (.lst acc) ∧ G D = none ∧ all2 (fun y v => rl X.K X.mg t1 y [v] G) done acc ∧ done.length ≤ i + 1 ∧
          compL xs (compF mt me) = (compL (xs.drop (i + 1)) (compF mt me) >>= fun r => .ok (done ++ r))), fun _ z => z, fun v H3 y => ?_⟩
      obtain ⟨x, hx, kx⟩ := w.yld i H' v H3 f1H hlt y
      have hxx : xs[i] = x := by rw [List.getElem?_eq_getElem hlt] at hx; exact Option.some.inj hx
      obtain ⟨G1, x1, rx⟩ := kx G f1 e2.i
      obtain ⟨o, ho, hc'⟩ := compL_step hlt hc hnd
      rw [hxx] at ho
      refine ⟨x, G1, x1.i, rx, fun ws hl hb => ⟨wipe_setL his, x, G1, x1.i, ?_, ?_⟩⟩
      · exact SD.setL (is := is) ((d.mono (e2.f.trans x1.f)).wipe vs) hb
      · cases qt : mt x with
        | ex z => unfold compF at ho; rw [qt] at ho; cases ho
        | no => unfold compF at ho; rw [qt] at ho; cases ho
        | ok b =>
          intro G2 H4 x2
          cases b with
          | false =>
            rw [if_neg Bool.false_ne_true]
            have ho' : o = none := by unfold compF at ho; rw [qt] at ho; exact (Mx.ok.inj ho).symm
            subst ho'
            refine ⟨xs.length - (i + 1), by omega, by omega, rfl, G2, acc, done, f1.trans (x1.f.trans x2.f), e2.trans (x1.trans x2), x2.h _ _ (x1.h _ _ hD), ?_, rr.imp fun y v z => rl_mono (x1.f.trans x2.f) t1 y [v] z, by omega, by rw [hc']; simp⟩
            exact x2.n D (by rw [x1.h _ _ hD]; exact fun z => nomatch z) (x1.n D (by rw [hD]; exact fun z => nomatch z) gD)
          | true =>
            rw [if_pos rfl]
            refine ⟨x, G2, x2.i, SD.setL (is := is) ((d.mono ((e2.f.trans x1.f).trans x2.f)).wipe vs) (bdL_mono x2.f hb), ?_⟩
            cases qe : me x with
            | ex z => unfold compF at ho; rw [qt] at ho; change (me x >>= fun y => Mx.ok (some y)) = _ at ho; rw [qe] at ho; cases ho
            | no => unfold compF at ho; rw [qt] at ho; change (me x >>= fun y => Mx.ok (some y)) = _ at ho; rw [qe] at ho; cases ho
            | ok z =>
              have ho' : o = some z := by unfold compF at ho; rw [qt] at ho; change (me x >>= fun y => Mx.ok (some y)) = _ at ho; rw [qe] at ho; exact (Mx.ok.inj ho).symm
              subst ho'
              intro u G3 H5 x3 r3
              have x4 := x1.trans (x2.trans x3)
              have hD5 : H5 D = some (.lst acc) := x4.h _ _ hD
              have gD3 : G3 D = none := x4.n D (by rw [hD]; exact fun z => nomatch z) gD
              have nDH : H D = none := e1.h.free nD
              refine ⟨acc, hD5, by rw [← rr.len]; omega, xs.length - (i + 1), by omega, by omega, rfl, G3, acc ++ [u], done ++ [z], f1.trans x4.f, ⟨(e2.trans x4).f, fun b o eb => ?_, fun b o eb => ?_, (e2.trans x4).n⟩, upd_same, gD3, ?_, by rw [List.length_append, List.length_singleton]; omega, by rw [hc']; rfl⟩
              · rw [upd_ne (ne_of_none eb nDH)]; exact (e2.trans x4).h _ _ eb
              · rw [upd_ne (fun z => by rw [z, gD3] at eb; cases eb)]; exact x4.i _ _ eb
              · exact (rr.imp fun y v z => rl_mono x4.f t1 y [v] z).app ⟨r3, True.intro⟩
    · have hi' : i = xs.length := by omega
      subst hi'
      refine .inl ⟨w.stop _ H' f1H (Nat.le_refl _), ?_⟩
      rw [List.drop_length] at hc
      have hc2 : compL xs (compF mt me) = .ok (done ++ []) := hc
      rw [hc2, List.append_nil] at pxs
      exact pxs (.ref D) G H' e2 ⟨[D], ⟨D, acc, done.map fun _ => [], rfl, by rw [flat_nil], hD, all3.of2 (fun x v q => ⟨rfl, q⟩) rr⟩, by simp, fun a ha => by
        rw [List.mem_singleton.mp ha]; exact ⟨gD, e1.h.free nD⟩⟩
theorem e_lc {elt iter : Expr} {ifs : List Expr} {scope : Scope} {own : List (Str × Nat)} {is : List Nat} {S : t.den → List Slot} {mi : Mx (List t.den)} {mt : t.den → Mx Bool} {me : t.den → Mx t1.den} (hc : X.calm = true) (hN : X.N.Nodup) (ok : BlkOk X.N X.env.scope scope own)
    (hi : EI X W Γ tg iter t mi) (hg : ∀ (s : Shared) (H : Hp) (C : Addr) (cl : List (Str × Addr)) (fp : List Addr), GT (X.blk s H scope (compEnvC scope cl C X.env) fp) tg t is S)
    (ht : ∀ (x : t.den) (s : Shared) (H : Hp) (C : Addr) (cl : List (Str × Addr)) (fp : List Addr), ETs (X.blk s H scope (compEnvC scope cl C X.env) fp) W0 (setL (wipeC Γ (own.map (·.2))) is (S x)) ifs (mt x))
    (he : ∀ (x : t.den) (s : Shared) (H : Hp) (C : Addr) (cl : List (Str × Addr)) (fp : List Addr), EM (X.blk s H scope (compEnvC scope cl C X.env) fp) W0 (setL (wipeC Γ (own.map (·.2))) is (S x)) elt t1 (me x))
    (his : ∀ i ∈ is, i ∈ own.map (·.2) := by decide) (hs : ∀ x, foldedSetIterable iter X.env x = pure x := by intro _; rfl) :
    EO X W Γ (.ListComp elt [⟨tg, iter, ifs, 0⟩] scope pos) (.l (.d t1)) (mi >>= fun xs => compO xs (compF mt me)) :=
  pe_imp (pe_lc hc hN hi ok hg (fun s H C cl fp => pts_ex fun x => ht x s H C cl fp) (fun s H C cl fp => pe_ex fun x => he x s H C cl fp) hs) (lc_read his)
/-- y = [elt for ..] on one line -/
theorem p_lc {i : Nat} {y : Str} {py : Pos} {spos : Pos} {elt iter : Expr} {ifs : List Expr} {scope : Scope} {own : List (Str × Nat)} {is : List Nat} {S : t.den → List Slot} {mi : Mx (List t.den)} {mt : t.den → Mx Bool} {me : t.den → Mx t1.den} (hc : X.calm = true) (hN : X.N.Nodup)
    (hy : X.N[i]? = some y) (hyl : X.env.scope.names.lookup y = some .local) (hsw : swapsWith (.ListComp elt [⟨tg, iter, ifs, 0⟩] scope pos) (some (.Name y py)) spos.line X.env = pure true) (ok : BlkOk X.N X.env.scope scope own)
    (hi : EI X W Γ tg iter t mi) (hg : ∀ (s : Shared) (H : Hp) (C : Addr) (cl : List (Str × Addr)) (fp : List Addr), GT (X.blk s H scope (compEnvC scope cl C X.env) fp) tg t is S)
    (ht : ∀ (x : t.den) (s : Shared) (H : Hp) (C : Addr) (cl : List (Str × Addr)) (fp : List Addr), ETs (X.blk s H scope (compEnvC scope cl C X.env) fp) W0 (setL (wipeC Γ (own.map (·.2))) is (S x)) ifs (mt x))
    (he : ∀ (x : t.den) (s : Shared) (H : Hp) (C : Addr) (cl : List (Str × Addr)) (fp : List Addr), EM (X.blk s H scope (compEnvC scope cl C X.env) fp) W0 (setL (wipeC Γ (own.map (·.2))) is (S x)) elt t1 (me x))
    (his : ∀ i ∈ is, i ∈ own.map (·.2) := by decide) (hs : ∀ x, foldedSetIterable iter X.env x = pure x := by intro _; rfl) :
    PS X (.Assign [.Name y py] (.ListComp elt [⟨tg, iter, ifs, 0⟩] scope pos) spos) (tAsg (tR X.mg X.K W Γ (.o (.l (.d t1))) (mi >>= fun xs => compO xs (compF mt me))) (gName i)) := by
  have h := ps_setLc (X := X) (g := gR X.K X.mg t is S) (tt := fun σ H Q => ∃ x, tT X.mg X.K W0 (setL (wipeC Γ (own.map (·.2))) is (S x)) (mt x) σ H Q) (te := fun σ H Q => ∃ x, tR X.mg X.K W0 (setL (wipeC Γ (own.map (·.2))) is (S x)) (.d t1) (me x) σ H Q) hc hN hy hyl hsw hi ok hg (fun s H C cl fp => pts_ex fun x => ht x s H C cl fp) (fun s H C cl fp => pe_ex fun x => he x s H C cl fp) hs
  exact ⟨fun pins s σ H D I q => h.run pins s σ H D I (lc_read his _ _ _ q)⟩
end
end Gm
set_option Elab.async false
set_option linter.all false
set_option maxRecDepth 100000
set_option maxHeartbeats 4000000
namespace Gm
open PySem PySem.Spec L2

/-! ## statements -/
inductive Out where
  | nx (Γ : Ctx) | rt (r : Rt) (x : r.den) | bk (Γ : Ctx) | ct (Γ : Ctx)
def Out.stays : Out → Bool
  | .nx _ => true
  | _ => false
section
variable (K : PySem.W.Frag) (mg : Str → Option Value)
def postS (W : WX) (E : Ent) {β : Type} (m : Mx β) (P : β → Prop) : Prop := match m with
  | .ok b => P b
  | .ex e => ∀ cls d σ F H, Ext E.F0 E.B F H → (∀ i ∈ E.hk, σ[i]? = E.s0[i]?) → xr mg e cls d H → W cls d σ H
  | .no => False
def outP (E : Ent) (D : Ends) : Out → Prop
  | .nx Γ => ∀ σ F H, SG K mg E Γ σ F H → D.nx σ H
  | .bk Γ => ∀ σ F H, SG K mg E Γ σ F H → D.bk σ H
  | .ct Γ => ∀ σ F H, SG K mg E Γ σ F H → D.ct σ H
  | .rt r x => ∀ v F H, Ext E.F0 E.B F H → rtr K mg r x v E.B F H → D.rt v H
def tS (W : WX) (hk : List Nat) (Γ : Ctx) {β : Type} (m : Mx β) (I : β → Out) : TS := fun D σ H => ∃ E F, E.hk = hk ∧ SG K mg E Γ σ F H ∧ postS mg W E m fun b => outP K mg E D (I b)
end
abbrev BS (X : Cx) (W : WX) (hk : List Nat) (Γ : Ctx) (st : List Stmt) {β : Type} (m : Mx β) (I : β → Out) : Prop := PSs X st (tS X.K X.mg W hk Γ m I)
abbrev S1 (X : Cx) (W : WX) (hk : List Nat) (Γ : Ctx) (st : Stmt) {β : Type} (m : Mx β) (I : β → Out) : Prop := PS X st (tS X.K X.mg W hk Γ m I)
theorem pss_imp {X : Cx} {st : List Stmt} {t t' : TS} (h : PSs X st t) (i : ∀ D σ H, t' D σ H → t D σ H) : PSs X st t' := ⟨fun pins s σ H D I q => h.run pins s σ H D I (i D σ H q)⟩
theorem ps_imp {X : Cx} {st : Stmt} {t t' : TS} (h : PS X st t) (i : ∀ D σ H, t' D σ H → t D σ H) : PS X st t' := ⟨fun pins s σ H D I q => h.run pins s σ H D I (i D σ H q)⟩
section
variable {mg : Str → Option Value} {K : PySem.W.Frag} {W : WX} {E : Ent} {α β : Type} {Γ Γ' : Ctx} {σ : L2.St} {F H F' H' : Hp}
theorem postS.bind {m : Mx α} {k : α → Mx β} {P : β → Prop} (h : postS mg W E (m >>= k) P) : postS mg W E m fun x => postS mg W E (k x) P := by
  cases m with
  | ok a => exact h
  | ex e => exact h
  | no => exact h
theorem postS.mono {m : Mx α} {P P' : α → Prop} (h : postS mg W E m P) (i : ∀ x, P x → P' x) : postS mg W E m P' := by
  cases m with
  | ok a => exact i a h
  | ex e => exact h
  | no => exact h
/-- an expression's part -/
theorem postS.post {m : Mx α} {P P' : α → Prop} (g : SG K mg E Γ σ F H) {G : Hp} (back : ∀ F' H', Ext G H F' H' → ∃ F2, Ext F H F2 H') (h : postS mg W E m P) (i : ∀ x, P x → P' x) : post mg W σ m G H P' := by
  cases m with
  | ok a => exact i a h
  | ex e =>
    intro cls d F' H' x r
    obtain ⟨F2, x2⟩ := back F' H' x
    exact h cls d σ F2 H' (g.e0.trans x2) g.kp r
  | no => exact h
/-- how an expression may look at the state -/
inductive Vw (Γ : Ctx) (r : Rt) : Ctx → Prop
  | all (h : r.flat = true) : Vw Γ r Γ
  | hid : Vw Γ r (hide Γ)
theorem SG.look {Γv : Ctx} {r : Rt} (g : SG K mg E Γ σ F H) (v : Vw Γ r Γv) : ∃ G, Same G H ∧ SD K mg Γv σ G ∧ ∀ F' H', Ext G H F' H' → ∃ F2, Ext F H F2 H' ∧ ∀ (x : r.den) (v : V), rtr K mg r x v H F' H' → rtr K mg r x v H F2 H' := by
  cases v with
  | all h =>
    obtain ⟨G, g1, _, g3, g4⟩ := g.eval h
    exact ⟨G, g1, g3, fun F' H' x => let ⟨F2, a, _, c⟩ := g4 F' H' x; ⟨F2, a, c⟩⟩
  | hid => exact ⟨F, g.e0.i, g.sd_hide, fun F' H' x => ⟨F', x, fun _ _ q => q⟩⟩
/-- less known -/
inductive Wk : Ctx → Ctx → Prop
  | nil : Wk [] []
  | same {a b : Ctx} {s : Slot} (h : Wk a b) : Wk (s :: a) (s :: b)
  | no {a b : Ctx} {s : Slot} (h : Wk a b) : Wk (.no :: a) (s :: b)
theorem Wk.refl : ∀ {Γ : Ctx}, Wk Γ Γ
  | [] => .nil
  | _ :: _ => .same Wk.refl
theorem Wk.get {a b : Ctx} (h : Wk a b) : ∀ {i : Nat} {s : Slot}, a[i]? = some s → ∃ u, b[i]? = some u ∧ (s = u ∨ s = .no) := by
  induction h with
  | nil => intro i s e; simp at e
  | @same a b s' h ih =>
    intro i s e
    cases i with
    | zero => exact ⟨s', rfl, .inl (by simpa using e.symm)⟩
    | succ i => obtain ⟨u, h1, h2⟩ := ih (i := i) (s := s) (by simpa using e); exact ⟨u, by simpa using h1, h2⟩
  | @no a b s' h ih =>
    intro i s e
    cases i with
    | zero => exact ⟨s', rfl, .inr (by simpa using e.symm)⟩
    | succ i => obtain ⟨u, h1, h2⟩ := ih (i := i) (s := s) (by simpa using e); exact ⟨u, by simpa using h1, h2⟩
theorem Wk.len {a b : Ctx} (h : Wk a b) : a.length = b.length := by
  induction h with
  | nil => rfl
  | same h ih => exact congrArg (· + 1) ih
  | no h ih => exact congrArg (· + 1) ih
theorem SG.weak (g : SG K mg E Γ σ F H) (w : Wk Γ' Γ) : SG K mg E Γ' σ F H := by
  obtain ⟨e0, kp, fps, q⟩ := g
  refine ⟨e0, kp, fun i => match Γ'[i]? with | some Slot.no => [] | none => [] | _ => fps i, fun i s e => ?_, fun i e => ?_, fun i => ?_, fun i j hij a ha => ?_, fun i a ha => ?_⟩
  · obtain ⟨u, h1, h2⟩ := w.get e
    obtain ⟨ov, e1, r⟩ := q.at_ i u h1
    refine ⟨ov, e1, ?_⟩
    rw [e]
    rcases h2 with rfl | rfl
    · cases s with
      | no => exact rfl
      | d t x => exact r
      | o o x => exact r
    · exact rfl
  · rw [e]
  · cases e : Γ'[i]? with
    | none => exact List.nodup_nil
    | some s => cases s with
      | no => exact List.nodup_nil
      | d t x => exact q.nd i
      | o o x => exact q.nd i
  · have sub : ∀ i, ∀ a ∈ (match Γ'[i]? with | some Slot.no => [] | none => [] | _ => fps i : List Addr), a ∈ fps i := fun i a ha => by
      cases e : Γ'[i]? with
      | none => rw [e] at ha; cases ha
      | some s => rw [e] at ha; cases s with
        | no => cases ha
        | d t x => exact ha
        | o o x => exact ha
    exact fun hb => q.sep i j hij a (sub i a ha) (sub j a hb)
  · have : a ∈ fps i := by
      cases e : Γ'[i]? with
      | none => rw [e] at ha; cases ha
      | some s => rw [e] at ha; cases s with
        | no => cases ha
        | d t x => exact ha
        | o o x => exact ha
    exact q.new i a this
end
section
variable {X : Cx} {W : WX} {hk : List Nat} {Γ Γ' Γv : Ctx} {st : Stmt} {rest A B' : List Stmt} {e c tg : Expr} {pos p : Pos} {β γ : Type} {r : Rt} {t : Ty} {I : β → Out}

/-! ## blocks -/
theorem bs_nil {b : β} (hI : I b = .nx Γ') (w : Wk Γ' Γ) : BS X W hk Γ [] (.ok b) I := pss_imp pss_nil fun D σ H ⟨E, F, h, g, q⟩ => by
  have q : outP X.K X.mg E D (I b) := q
  rw [hI] at q
  exact q σ F H (g.weak w)
theorem bs_one {m : Mx β} (h : S1 X W hk Γ st m I) : BS X W hk Γ [st] m I := pss_one h
/-- a statement that goes on, the rest -/
theorem bs_seq {α : Type} {m : Mx α} {G : α → Ctx} {k : α → Mx β} (h : S1 X W hk Γ st m fun s => .nx (G s)) (hr : ∀ s, BS X W hk (G s) rest (k s) I) : BS X W hk Γ (st :: rest) (m >>= k) I :=
  have hr' : PSs X rest (fun D σ H => ∃ s, tS X.K X.mg W hk (G s) (k s) I D σ H) := ⟨fun pins s σ H D J ⟨x, q⟩ => (hr x).run pins s σ H D J q⟩
  pss_imp (pss_cons h hr') fun D σ H ⟨E, F, h, g, q⟩ => ⟨E, F, h, g, q.bind.mono fun s qs σ' F' H' g' => ⟨s, E, F', h, g', qs⟩⟩
/-- a statement that may leave -/
inductive Fw (S R : Type) where
  | go (s : S) | out (r : R)
def fwk {S R β : Type} (k : S → Mx β) (j : R → β) : Fw S R → Mx β
  | .go s => k s
  | .out r => .ok (j r)
def fwo {S R : Type} (G : S → Ctx) (O : R → Out) : Fw S R → Out
  | .go s => .nx (G s)
  | .out r => O r
theorem bs_seqF {S R : Type} {m : Mx (Fw S R)} {G : S → Ctx} {O : R → Out} {k : S → Mx β} {j : R → β} (h : S1 X W hk Γ st m (fwo G O)) (hr : ∀ s, BS X W hk (G s) rest (k s) I) (hj : ∀ x, I (j x) = O x := by intro _; rfl) (ho : ∀ x, (O x).stays = false := by intro _; rfl) :
    BS X W hk Γ (st :: rest) (m >>= fwk k j) I :=
  have hr' : PSs X rest (fun D σ H => ∃ s, tS X.K X.mg W hk (G s) (k s) I D σ H) := ⟨fun pins s σ H D J ⟨x, q⟩ => (hr x).run pins s σ H D J q⟩
  pss_imp (pss_cons h hr') fun D σ H ⟨E, F, h, g, q⟩ => ⟨E, F, h, g, q.bind.mono fun s qs => by
    cases s with
    | go s => exact fun σ' F' H' g' => ⟨s, E, F', h, g', qs⟩
    | out x =>
      have q2 : outP X.K X.mg E D (I (j x)) := qs
      rw [hj] at q2
      have hx := ho x
      show outP X.K X.mg E _ (O x)
      cases e : O x with
      | nx Γ => rw [e] at hx; cases hx
      | rt r y => rw [e] at q2; exact q2
      | bk Γ => rw [e] at q2; exact q2
      | ct Γ => rw [e] at q2; exact q2⟩
theorem bs_map {m : Mx γ} {I' : γ → Out} {f : γ → β} (h : BS X W hk Γ A m I') (hI : ∀ b, I (f b) = I' b := by intro _; rfl) : BS X W hk Γ A (m >>= fun b => .ok (f b)) I := pss_imp h fun D σ H ⟨E, F, h, g, q⟩ =>
  ⟨E, F, h, g, q.bind.mono fun b qb => by have qb : outP X.K X.mg E D (I (f b)) := qb; rw [hI] at qb; exact qb⟩
theorem bs_cast {m m' : Mx β} (h : BS X W hk Γ A m I) (e : m = m') : BS X W hk Γ A m' I := e ▸ h
theorem bs_weak {m : Mx β} (h : BS X W hk Γ' A m I) (w : Wk Γ' Γ) : BS X W hk Γ A m I := pss_imp h fun D σ H ⟨E, F, h, g, q⟩ => ⟨E, F, h, g.weak w, q⟩
theorem bs_freeze (i : Nat) {o : Ow} {x : o.ty.den} {m : Mx β} (hi : Γ[i]? = some (.o o x)) (h : BS X W hk (Γ.set i (.d o.ty x)) A m I) : BS X W hk Γ A m I := pss_imp h fun D σ H ⟨E, F, h, g, q⟩ => let ⟨F', g'⟩ := g.freeze hi; ⟨E, F', h, g', q⟩

/-! ## assignments -/
theorem bs_set {i : Nat} {me : Mx r.den} {k : r.den → Mx β} (hs : PS X st (tAsg (tR X.mg X.K W Γv r me) (gName i))) (vw : Vw Γ r Γv) (hr : ∀ x, BS X W hk (Γ.set i (slotOf r x)) rest (k x) I) (hi : i < Γ.length := by decide) (hn : i ∉ hk := by decide) : BS X W hk Γ (st :: rest) (me >>= k) I :=
  have hr' : PSs X rest (fun D σ H => ∃ s, tS X.K X.mg W hk (Γ.set i (slotOf r s)) (k s) I D σ H) := ⟨fun pins s σ H D J ⟨x, q⟩ => (hr x).run pins s σ H D J q⟩
  pss_imp (pss_cons hs hr') fun D σ H ⟨E, F, h, g, q⟩ => by
    obtain ⟨G, g1, g2, g3⟩ := g.look vw
    refine ⟨G, g1, g2, q.bind.post g (fun F' H' x => let ⟨F2, a, _⟩ := g3 F' H' x; ⟨F2, a⟩) fun x px v F' H' ex rr => ?_⟩
    obtain ⟨F2, x2, back⟩ := g3 F' H' ex
    exact ⟨x, E, F2, h, g.set x2 (back x v rr) hi (by rw [h]; exact hn), px⟩
/-- several slots at once -/
theorem SG.setL {K : PySem.W.Frag} {mg : Str → Option Value} {E : Ent} {F H : Hp} : ∀ {is : List Nat} {ss : List Slot} {ws : List V} {Γ : Ctx} {σ : L2.St}, SG K mg E Γ σ F H → bdL K mg ss ws F → (∀ i ∈ is, i < Γ.length ∧ i ∉ E.hk) → SG K mg E (Gm.setL Γ is ss) (Gm.setL σ is (ws.map some)) F H
  | [], [], [], _, _, g, _, _ => g
  | [], .d _ _ :: _, _ :: _, _, _, g, _, _ => g
  | _ :: _, [], [], _, _, g, _, _ => g
  | i :: is, .d t x :: ss, w :: ws, Γ, σ, g, ⟨a, b⟩, hi => SG.setL (is := is) (g.set (r := .d t) (x := x) (v := w) (Ext.refl g.e0.i) a (hi i (List.mem_cons_self ..)).1 (hi i (List.mem_cons_self ..)).2) b fun j hj => by
      rw [List.length_set]; exact hi j (List.mem_cons_of_mem _ hj)
  | _, [], _ :: _, _, _, _, z, _ => z.elim
  | _, .d _ _ :: _, [], _, _, _, z, _ => z.elim
  | _, .no :: _, _, _, _, _, z, _ => z.elim
  | _, .o _ _ :: _, _, _, _, _, z, _ => z.elim
/-- target = e -/
theorem bs_asg {is : List Nat} {S : t.den → List Slot} {me : Mx t.den} {k : t.den → Mx β} (he : EM X W Γv e t me) (vw : Vw Γ (.d t) Γv) (hg : GT X tg t is S) (hr : ∀ x, BS X W hk (setL Γ is (S x)) rest (k x) I)
    (hi : ∀ i ∈ is, i < Γ.length ∧ i ∉ hk := by decide) (hs : swapsWithSole [tg] e pos.line X.env = pure false := by rfl) (hw : swappedStores [tg] e X.env = pure none := by rfl) (h1 : (assignEach [tg] X.env).map (·.2) = [assign tg X.env] := by rfl) : BS X W hk Γ (.Assign [tg] e pos :: rest) (me >>= k) I :=
  have hr' : PSs X rest (fun D σ H => ∃ s, tS X.K X.mg W hk (setL Γ is (S s)) (k s) I D σ H) := ⟨fun pins s σ H D J ⟨x, q⟩ => (hr x).run pins s σ H D J q⟩
  pss_imp (pss_cons (ps_asg he hg hs hw h1) hr') fun D σ H ⟨E, F, h, g, q⟩ => by
    obtain ⟨G, g1, g2, g3⟩ := g.look vw
    refine ⟨G, g1, g2, q.bind.post g (fun F' H' x => let ⟨F2, a, _⟩ := g3 F' H' x; ⟨F2, a⟩) fun x px v F' H' ex rr => ?_⟩
    obtain ⟨F2, x2, back⟩ := g3 F' H' ex
    refine ⟨x, F2, x2.i, back x v rr, fun ws hl hb => ⟨x, E, F2, h, ?_, px⟩⟩
    exact SG.setL (is := is) (g.grow x2) hb fun i hii => by rw [h]; exact hi i hii
/-- an expression whose value is dropped -/
theorem bs_expr {me : Mx r.den} {m : Mx β} (he : ER X W Γv e r me) (vw : Vw Γ r Γv) (hr : BS X W hk Γ rest m I) (hs : swapsWith e none pos.line X.env = pure false := by rfl) : BS X W hk Γ (.Expr e pos :: rest) (me >>= fun _ => m) I :=
  pss_imp (pss_cons (ps_expr he hs) hr) fun D σ H ⟨E, F, h, g, q⟩ => by
    obtain ⟨G, g1, g2, g3⟩ := g.look vw
    refine ⟨G, g1, g2, q.bind.post g (fun F' H' x => let ⟨F2, a, _⟩ := g3 F' H' x; ⟨F2, a⟩) fun x px v F' H' ex rr => ?_⟩
    obtain ⟨F2, x2, back⟩ := g3 F' H' ex
    exact ⟨E, F2, h, g.grow x2, px⟩
theorem bs_pass {m : Mx β} (hr : BS X W hk Γ rest m I) : BS X W hk Γ (.Pass pos :: rest) m I := pss_imp (pss_cons ps_pass hr) fun D σ H q => q

/-! ## return -/
theorem bs_ret {me : Mx r.den} {b : r.den → β} (he : ER X W Γv e r me) (vw : Vw Γ r Γv) (hI : ∀ x, I (b x) = .rt r x := by intro _; rfl) : BS X W hk Γ (.Return (some e) pos :: rest) (me >>= fun x => .ok (b x)) I :=
  pss_imp (pss_cons (ps_ret he) pss_never) fun D σ H ⟨E, F, h, g, q⟩ => by
    obtain ⟨G, g1, g2, g3⟩ := g.look vw
    refine ⟨G, g1, g2, q.bind.post g (fun F' H' x => let ⟨F2, a, _⟩ := g3 F' H' x; ⟨F2, a⟩) fun x px v F' H' ex rr => ?_⟩
    obtain ⟨F2, x2, back⟩ := g3 F' H' ex
    have px : outP X.K X.mg E D (I (b x)) := px
    rw [hI] at px
    exact px v F2 H' (g.e0.trans x2) (rtr_pre g.e0.h (back x v rr))
/-- an owned name is returned -/
theorem bs_retO (i : Nat) {o : Ow} {x : o.ty.den} {n : Str} {b : β} (hi : Γ[i]? = some (.o o x)) (hp : PE X (.Name n p) (tVar i)) (hI : I b = .rt (.o o) x := by rfl) : BS X W hk Γ (.Return (some (.Name n p)) pos :: rest) (.ok b) I :=
  pss_imp (pss_cons (ps_ret hp) pss_never) fun D σ H ⟨E, F, h, g, q⟩ => by
    have q : outP X.K X.mg E D (I b) := q
    rw [hI] at q
    obtain ⟨fps, w⟩ := g.ow
    obtain ⟨ov, e1, v, rfl, r⟩ := w.at_ i _ hi
    exact ⟨v, e1, q v F H g.e0 ⟨fps i, r, w.nd i, w.new i⟩⟩
theorem bs_retN {b : β} (hI : I b = .rt (.d .non) () := by rfl) : BS X W hk Γ (.Return none pos :: rest) (.ok b) I := pss_imp (pss_cons ps_retN pss_never) fun D σ H ⟨E, F, h, g, q⟩ => by
  have q : outP X.K X.mg E D (I b) := q
  rw [hI] at q
  exact q .non F H g.e0 rfl

/-! ## if -/
theorem s1_if {mc : Mx Bool} {mA mB : Mx β} (hc : ET X W Γ c mc) (hA : BS X W hk Γ A mA I) (hB : BS X W hk Γ B' mB I) : S1 X W hk Γ (.If c A B' pos) (mc >>= fun x => if x then mA else mB) I :=
  ps_imp (ps_if hc hA hB) fun D σ H ⟨E, F, h, g, q⟩ => by
    obtain ⟨G, g1, g2, g3⟩ := g.look (r := .d .bool) (.all rfl)
    refine ⟨G, g1, g2, q.bind.post g (fun F' H' x => let ⟨F2, a, _⟩ := g3 F' H' x; ⟨F2, a⟩) fun x px F' H' ex => ?_⟩
    obtain ⟨F2, x2, back⟩ := g3 F' H' ex
    cases x with
    | true => exact ⟨E, F2, h, g.grow x2, px⟩
    | false => exact ⟨E, F2, h, g.grow x2, px⟩
/-- if c: A (which leaves); the rest -/
theorem bs_ifR {mc : Mx Bool} {mA m : Mx β} (hc : ET X W Γ c mc) (hA : BS X W hk Γ A mA I) (hr : BS X W hk Γ rest m I) (hI : ∀ b, (I b).stays = false := by intro _; rfl) : BS X W hk Γ (.If c A [] pos :: rest) (mc >>= fun x => if x then mA else m) I :=
  pss_imp (pss_cons (ps_if hc hA pss_nil) hr) fun D σ H ⟨E, F, h, g, q⟩ => by
    obtain ⟨G, g1, g2, g3⟩ := g.look (r := .d .bool) (.all rfl)
    refine ⟨G, g1, g2, q.bind.post g (fun F' H' x => let ⟨F2, a, _⟩ := g3 F' H' x; ⟨F2, a⟩) fun x px F' H' ex => ?_⟩
    obtain ⟨F2, x2, back⟩ := g3 F' H' ex
    cases x with
    | true =>
      refine ⟨E, F2, h, g.grow x2, postS.mono px fun b qb => ?_⟩
      have hx := hI b
      cases e : I b with
      | nx Γ => rw [e] at hx; cases hx
      | rt r y => rw [e] at qb; exact qb
      | bk Γ => rw [e] at qb; exact qb
      | ct Γ => rw [e] at qb; exact qb
    | false => exact ⟨E, F2, h, g.grow x2, px⟩
end
end Gm
set_option Elab.async false
set_option linter.all false
set_option maxRecDepth 100000
set_option maxHeartbeats 4000000
namespace Gm
open PySem PySem.Spec L2
open PyProof.Rows (envOfC)

/-! ## loops -/
def loopS {S α : Type} : List α → S → (S → α → Mx S) → Mx S
  | [], s, _ => .ok s
  | x :: r, s, f => f s x >>= fun s' => loopS r s' f
inductive Lp (S R : Type) where
  | go (s : S) | brk (s : S) | out (r : R)
def loopF {S R α : Type} : List α → S → (S → α → Mx (Lp S R)) → Mx (Fw S R)
  | [], s, _ => .ok (.go s)
  | x :: r, s, f => f s x >>= fun o => match o with
    | .go s' => loopF r s' f
    | .brk s' => .ok (.go s')
    | .out q => .ok (.out q)
def whileS {S : Type} : Nat → S → (S → Mx Bool) → (S → Mx S) → Mx S
  | 0, _, _, _ => .no
  | n + 1, s, c, f => c s >>= fun b => if b then f s >>= fun s' => whileS n s' c f else .ok s
def whileF {S R : Type} : Nat → S → (S → Mx Bool) → (S → Mx (Lp S R)) → Mx (Fw S R)
  | 0, _, _, _ => .no
  | n + 1, s, c, f => c s >>= fun b => if b then f s >>= fun o => (match o with
    | .go s' => whileF n s' c f
    | .brk s' => .ok (.go s')
    | .out q => .ok (.out q)) else .ok (.go s)
def lpo {S R : Type} (G : S → Ctx) (O : R → Out) : Lp S R → Out
  | .go s => .nx (G s)
  | .brk s => .bk (G s)
  | .out r => O r
def Out.isRt : Out → Bool
  | .rt _ _ => true
  | _ => false
section
variable {mg : Str → Option Value} {K : PySem.W.Frag} {W : WX} {E : Ent} {α β : Type} {Γ Γ' : Ctx} {σ : L2.St} {F H F' H' F2 H2 : Hp}
/-- the entry with more frozen -/
abbrev Ent.up (E : Ent) (F2 : Hp) : Ent := { E with F0 := F2 }
theorem ext_up (x : Ext E.F0 E.B F2 H2) (y : Ext F2 E.B F H) : Ext E.F0 E.B F H := ⟨x.f.trans y.f, y.h, y.i, fun p hp hf => y.n p hp (x.n p hp hf)⟩
theorem SG.down (g : SG K mg (E.up F2) Γ σ F H) (x : Ext E.F0 E.B F2 H2) : SG K mg E Γ σ F H := ⟨ext_up x g.e0, g.kp, g.ow⟩
theorem SG.up (g : SG K mg E Γ σ F H) : SG K mg (E.up F) Γ σ F H := ⟨⟨Same.refl _, g.e0.h, g.e0.i, fun p _ q => q⟩, g.kp, g.ow⟩
theorem postS.up {m : Mx α} {P P' : α → Prop} (x : Ext E.F0 E.B F2 H2) (h : postS mg W E m P) (i : ∀ a, P a → P' a) : postS mg W (E.up F2) m P' := by
  cases m with
  | ok a => exact i a h
  | ex e => exact fun cls d σ F H y k r => h cls d σ F H (ext_up x y) k r
  | no => exact h
end
def tIS (mg : Str → Option Value) (K : PySem.W.Frag) (W : WX) (hk : List Nat) (Γ : Ctx) (t : Ty) (m : Mx (List t.den)) : TI := fun σ H R => ∃ E F, E.hk = hk ∧ SG K mg E Γ σ F H ∧
  postS mg W E m fun xs => ∀ F' H' J, Ext F H F' H' → Wlk K mg t J xs F' → R J H'
abbrev IS (X : Cx) (W : WX) (hk : List Nat) (Γ : Ctx) (tg iter : Expr) (t : Ty) (m : Mx (List t.den)) : Prop := PI X tg iter (tIS X.mg X.K W hk Γ t m)
/-- what is walked, whatever is frozen -/
def tIR (mg : Str → Option Value) (K : PySem.W.Frag) (W : WX) (Γ : Ctx) (t : Ty) (m : Mx (List t.den)) : TI := fun σ H R => ∃ F, Same F H ∧ SD K mg Γ σ F ∧
  post mg W σ m F H fun xs => ∀ F' H' J, Ext F H F' H' → (∀ G, Wlk K mg t J xs G) → R J H'
abbrev EIR (X : Cx) (W : WX) (Γ : Ctx) (tg iter : Expr) (t : Ty) (m : Mx (List t.den)) : Prop := PI X tg iter (tIR X.mg X.K W Γ t m)
section
variable {X : Cx} {W : WX} {hk : List Nat} {Γ Γ' Γv : Ctx} {st : Stmt} {rest body : List Stmt} {e c tg iter a b : Expr} {pos p : Pos} {β γ : Type} {r : Rt} {t : Ty} {I : β → Out}
theorem is_hid {m : Mx (List t.den)} (h : EI X W (hide Γ) tg iter t m) : IS X W hk Γ tg iter t m := pi_imp h fun σ H R ⟨E, F, hh, g, q⟩ => ⟨F, g.e0.i, g.sd_hide, q.post g (fun F' H' x => ⟨F', x⟩) fun xs k => k⟩
theorem is_ran {m : Mx (List t.den)} (h : EIR X W Γ tg iter t m) : IS X W hk Γ tg iter t m := pi_imp h fun σ H R ⟨E, F, hh, g, q⟩ => by
  obtain ⟨G, g1, g2, g3⟩ := g.look (r := .d .bool) (.all rfl)
  refine ⟨G, g1, g2, q.post g (fun F' H' x => let ⟨F2, a, _⟩ := g3 F' H' x; ⟨F2, a⟩) fun xs k F' H' J x w => ?_⟩
  obtain ⟨F2, x2, _⟩ := g3 F' H' x
  exact k F2 H' J x2 (w F2)
theorem r_ran1 {m : Mx Int} (hg : Gl X "range") (hm : X.mg "range" = none) (ha : EM X W Γ a .int m) (hs : starEach [a] X.env = [(false, eval a X.env)] := by rfl) : EIR X W Γ tg (.Call (.Name "range" p) [a] [] pos) .int (m >>= fun n => ofO (ranO 0 n)) :=
  pi_imp (pi_range1 hg hm (ea_one ha hs) hs) fun σ H R ⟨F, s, d, q⟩ => ⟨F, s, d, q.bind.mono fun x px vs F1 H1 e1 r1 => by
    cases (show vs = _ from r1)
    unfold ranO at px
    split at px
    · rename_i h
      refine ⟨x, rfl, h.2.2.1, h.2.2.2, ?_⟩
      refine px F1 H1 _ e1 fun G => ?_
      have := wlk_ran (K := X.K) (mg := X.mg) (lo := 0) (hi := x) G
      rw [Int.sub_zero] at this
      exact this
    · exact px.elim⟩
theorem r_ran2 {m1 m2 : Mx Int} (hg : Gl X "range") (hm : X.mg "range" = none) (ha : EM X W Γ a .int m1) (hb : EM X W Γ b .int m2) (hs : starEach [a, b] X.env = [(false, eval a X.env), (false, eval b X.env)] := by rfl) (hs2 : starEach [b] X.env = [(false, eval b X.env)] := by rfl) :
    EIR X W Γ tg (.Call (.Name "range" p) [a, b] [] pos) .int (m1 >>= fun l => m2 >>= fun n => ofO (ranO l n)) :=
  pi_imp (pi_range2 hg hm (pa_cons ha (pa_cons hb pa_nil hs2) (by rw [hs, hs2])) hs hs2) fun σ H R ⟨F, s, d, q⟩ => ⟨F, s, d, q.bind.mono fun x px v F1 H1 e1 r1 => ⟨F1, e1.i, d.mono e1.f, post.ext e1 px.bind fun y py w F2 H2 e2 r2 => by
    cases (List.cons.inj (show [v] = _ from r1)).1
    cases (List.cons.inj (show [w] = _ from r2)).1
    unfold ranO at py
    split at py
    · rename_i h
      exact ⟨x, y, rfl, ⟨h.1, h.2.1, h.2.2.1, h.2.2.2⟩, py F2 H2 _ (e1.trans e2) fun G => wlk_ran G⟩
    · exact py.elim⟩⟩
/-- for, a turn of which always goes on -/
theorem s1_for {S : Type} {G : S → Ctx} {f : S → t.den → Mx S} {s0 : S} {mi : Mx (List t.den)} {is : List Nat} {T : t.den → List Slot} (hp : PassesOwn (model X.prog X.w) X.A X.env X.xe) (hc : X.calm = true) (hi : IS X W hk Γ tg iter t mi) (hg : GT X tg t is T)
    (hb : ∀ s x, BS X W hk (setL (G s) is (T x)) body (f s x) (fun s' => .nx (G s'))) (h0 : Wk (G s0) Γ) (hix : ∀ s, ∀ i ∈ is, i < (G s).length ∧ i ∉ hk := by intro _; decide) (hs : ∀ x, foldedSetIterable iter X.env x = pure x := by intro _; rfl) :
    S1 X W hk Γ (.For tg iter body [] pos) (mi >>= fun xs => loopS xs s0 f) (fun s => .nx (G s)) :=
  have hb' : PSs X body (fun D σ H => ∃ s x, tS X.K X.mg W hk (setL (G s) is (T x)) (f s x) (fun s' => .nx (G s')) D σ H) := ⟨fun pins σ1 σ H D J ⟨s, x, q⟩ => (hb s x).run pins σ1 σ H D J q⟩
  ps_imp (ps_for hp hc hi hg hb' hs) fun D σ H ⟨E, F, hh, g, q⟩ => by
    refine ⟨E, F, hh, g, q.bind.mono fun xs pxs F2 H2 J ex w => ?_⟩
    have xe : Ext E.F0 E.B F2 H2 := g.e0.trans ex
    refine ⟨fun i m σ' H' => i ≤ xs.length ∧ m = xs.length - i ∧ ∃ s F', SG X.K X.mg (E.up F2) (G s) σ' F' H' ∧ postS X.mg W E (loopS (xs.drop i) s f) (fun s => outP X.K X.mg E D (.nx (G s))), ⟨xs.length, Nat.zero_le _, by simp, s0, F2, ((g.grow ex).weak h0).up, pxs⟩, ?_⟩
    rintro i m σ' H' ⟨hil, rfl, s, F', g', q'⟩
    by_cases hlt : i < xs.length
    · refine .inr ⟨w.go i H' (g'.e0.f.trans g'.e0.i) hlt, fun σ'' H'' => ∃ m', m' < xs.length - i ∧ (i + 1 ≤ xs.length ∧ m' = xs.length - (i + 1) ∧ ∃ s F', SG X.K X.mg (E.up F2) (G s) σ'' F' H'' ∧ postS X.mg W E (loopS (xs.drop (i + 1)) s f) (fun s => outP X.K X.mg E D (.nx (G s)))), fun _ _ z => z, fun v H3 y => ?_⟩
      obtain ⟨x, hx, kx⟩ := w.yld i H' v H3 (g'.e0.f.trans g'.e0.i) hlt y
      obtain ⟨G1, x1, rx⟩ := kx F' g'.e0.f g'.e0.i
      rw [List.drop_eq_getElem_cons hlt] at q'
      have hxx : xs[i] = x := by rw [List.getElem?_eq_getElem hlt] at hx; exact Option.some.inj hx
      rw [hxx] at q'
      refine ⟨x, G1, x1.i, rx, fun ws hl hbd => ⟨s, x, E.up F2, G1, hh, ?_, ?_⟩⟩
      · exact SG.setL (is := is) (g'.grow x1) hbd fun j hj => by
          have := hix s j hj
          exact ⟨this.1, by show j ∉ E.hk; rw [hh]; exact this.2⟩
      · exact postS.up xe (postS.bind (k := fun s' => loopS (xs.drop (i + 1)) s' f) q') fun s' qs σ4 F4 H4 g4 => ⟨xs.length - (i + 1), by omega, by omega, rfl, s', F4, g4, qs⟩
    · have hi' : i = xs.length := by omega
      subst hi'
      refine .inl ⟨w.stop _ H' (g'.e0.f.trans g'.e0.i) (Nat.le_refl _), ?_⟩
      rw [List.drop_length] at q'
      exact q' σ' F' H' (g'.down xe)
/-- for, whose turns may leave -/
theorem s1_forF {S R : Type} {G : S → Ctx} {O : R → Out} {f : S → t.den → Mx (Lp S R)} {s0 : S} {mi : Mx (List t.den)} {is : List Nat} {T : t.den → List Slot} (hp : PassesOwn (model X.prog X.w) X.A X.env X.xe) (hc : X.calm = true) (hi : IS X W hk Γ tg iter t mi) (hg : GT X tg t is T)
    (hb : ∀ s x, BS X W hk (setL (G s) is (T x)) body (f s x) (lpo G O)) (h0 : Wk (G s0) Γ) (hO : ∀ r, (O r).isRt = true := by intro _; rfl) (hix : ∀ s, ∀ i ∈ is, i < (G s).length ∧ i ∉ hk := by intro _; decide) (hs : ∀ x, foldedSetIterable iter X.env x = pure x := by intro _; rfl) :
    S1 X W hk Γ (.For tg iter body [] pos) (mi >>= fun xs => loopF xs s0 f) (fwo G O) :=
  have hb' : PSs X body (fun D σ H => ∃ s x, tS X.K X.mg W hk (setL (G s) is (T x)) (f s x) (lpo G O) D σ H) := ⟨fun pins σ1 σ H D J ⟨s, x, q⟩ => (hb s x).run pins σ1 σ H D J q⟩
  ps_imp (ps_for hp hc hi hg hb' hs) fun D σ H ⟨E, F, hh, g, q⟩ => by
    refine ⟨E, F, hh, g, q.bind.mono fun xs pxs F2 H2 J ex w => ?_⟩
    have xe : Ext E.F0 E.B F2 H2 := g.e0.trans ex
    refine ⟨fun i m σ' H' => i ≤ xs.length ∧ m = xs.length - i ∧ ∃ s F', SG X.K X.mg (E.up F2) (G s) σ' F' H' ∧ postS X.mg W E (loopF (xs.drop i) s f) (fun s => outP X.K X.mg E D (fwo G O s)), ⟨xs.length, Nat.zero_le _, by simp, s0, F2, ((g.grow ex).weak h0).up, pxs⟩, ?_⟩
    rintro i m σ' H' ⟨hil, rfl, s, F', g', q'⟩
    by_cases hlt : i < xs.length
    · refine .inr ⟨w.go i H' (g'.e0.f.trans g'.e0.i) hlt, fun σ'' H'' => ∃ m', m' < xs.length - i ∧ (i + 1 ≤ xs.length ∧ m' = xs.length - (i + 1) ∧ ∃ s F', SG X.K X.mg (E.up F2) (G s) σ'' F' H'' ∧ postS X.mg W E (loopF (xs.drop (i + 1)) s f) (fun s => outP X.K X.mg E D (fwo G O s))), fun _ _ z => z, fun v H3 y => ?_⟩
      obtain ⟨x, hx, kx⟩ := w.yld i H' v H3 (g'.e0.f.trans g'.e0.i) hlt y
      obtain ⟨G1, x1, rx⟩ := kx F' g'.e0.f g'.e0.i
      rw [List.drop_eq_getElem_cons hlt] at q'
      have hxx : xs[i] = x := by rw [List.getElem?_eq_getElem hlt] at hx; exact Option.some.inj hx
      rw [hxx] at q'
      refine ⟨x, G1, x1.i, rx, fun ws hl hbd => ⟨s, x, E.up F2, G1, hh, ?_, ?_⟩⟩
      · exact SG.setL (is := is) (g'.grow x1) hbd fun j hj => by
          have := hix s j hj
          exact ⟨this.1, by show j ∉ E.hk; rw [hh]; exact this.2⟩
      · refine postS.up xe (postS.bind (m := f s x) q') fun o qs => ?_
        cases o with
        | go s' => exact fun σ4 F4 H4 g4 => ⟨xs.length - (i + 1), by omega, by omega, rfl, s', F4, g4, qs⟩
        | brk s' => exact fun σ4 F4 H4 g4 => qs σ4 F4 H4 (g4.down xe)
        | out z =>
          have qs : outP X.K X.mg E D (O z) := qs
          have hz := hO z
          show outP X.K X.mg (E.up F2) _ (O z)
          cases e : O z with
          | nx _ => rw [e] at hz; cases hz
          | bk _ => rw [e] at hz; cases hz
          | ct _ => rw [e] at hz; cases hz
          | rt r y => rw [e] at qs; exact fun v F H y2 r2 => qs v F H (ext_up xe y2) r2
    · have hi' : i = xs.length := by omega
      subst hi'
      refine .inl ⟨w.stop _ H' (g'.e0.f.trans g'.e0.i) (Nat.le_refl _), ?_⟩
      rw [List.drop_length] at q'
      exact q' σ' F' H' (g'.down xe)
/-- while -/
theorem s1_while {S : Type} {G : S → Ctx} {mc : S → Mx Bool} {f : S → Mx S} {s0 : S} (n : Nat) (hp : PassesOwn (model X.prog X.w) X.A X.env X.xe) (hc : ∀ s, ET X W (G s) c (mc s)) (hb : ∀ s, BS X W hk (G s) body (f s) (fun s' => .nx (G s'))) (h0 : Wk (G s0) Γ) :
    S1 X W hk Γ (.While c body [] pos) (whileS n s0 mc f) (fun s => .nx (G s)) :=
  have hc' : PT X c (fun σ H Q => ∃ s, tT X.mg X.K W (G s) (mc s) σ H Q) := ⟨fun pins s1 σ H Q J ⟨s, q⟩ => (hc s).run pins s1 σ H Q J q⟩
  have hb' : PSs X body (fun D σ H => ∃ s, tS X.K X.mg W hk (G s) (f s) (fun s' => .nx (G s')) D σ H) := ⟨fun pins s1 σ H D J ⟨s, q⟩ => (hb s).run pins s1 σ H D J q⟩
  ps_imp (ps_while hp hc' hb') fun D σ H ⟨E, F, hh, g, q⟩ => by
    refine ⟨fun m σ' H' => ∃ s F', SG X.K X.mg E (G s) σ' F' H' ∧ postS X.mg W E (whileS m s mc f) (fun s => outP X.K X.mg E D (.nx (G s))), ⟨n, s0, F, g.weak h0, q⟩, ?_⟩
    rintro m σ' H' ⟨s, F', g', q'⟩
    cases m with
    | zero => exact q'.elim
    | succ m =>
      obtain ⟨G0, g1, g2, g3⟩ := g'.look (r := .d .bool) (.all rfl)
      refine ⟨s, G0, g1, g2, (postS.bind q').post g' (fun F' H' x => let ⟨F2, a, _⟩ := g3 F' H' x; ⟨F2, a⟩) fun b pb F3 H3 ex => ?_⟩
      obtain ⟨F2, x2, _⟩ := g3 F3 H3 ex
      cases b with
      | true =>
        rw [if_pos rfl]
        exact ⟨fun σ'' H'' => ∃ m', m' < m + 1 ∧ ∃ s F', SG X.K X.mg E (G s) σ'' F' H'' ∧ postS X.mg W E (whileS m' s mc f) (fun s => outP X.K X.mg E D (.nx (G s))), fun _ _ z => z, s, E, F2, hh, g'.grow x2,
          postS.mono (postS.bind pb) fun s' qs σ4 F4 H4 g4 => ⟨m, Nat.lt_succ_self m, s', F4, g4, qs⟩⟩
      | false =>
        rw [if_neg Bool.false_ne_true]
        exact pb σ' F2 H3 (g'.grow x2)
theorem s1_whileF {S R : Type} {G : S → Ctx} {O : R → Out} {mc : S → Mx Bool} {f : S → Mx (Lp S R)} {s0 : S} (n : Nat) (hp : PassesOwn (model X.prog X.w) X.A X.env X.xe) (hc : ∀ s, ET X W (G s) c (mc s)) (hb : ∀ s, BS X W hk (G s) body (f s) (lpo G O)) (h0 : Wk (G s0) Γ) (hO : ∀ r, (O r).isRt = true := by intro _; rfl) :
    S1 X W hk Γ (.While c body [] pos) (whileF n s0 mc f) (fwo G O) :=
  have hc' : PT X c (fun σ H Q => ∃ s, tT X.mg X.K W (G s) (mc s) σ H Q) := ⟨fun pins s1 σ H Q J ⟨s, q⟩ => (hc s).run pins s1 σ H Q J q⟩
  have hb' : PSs X body (fun D σ H => ∃ s, tS X.K X.mg W hk (G s) (f s) (lpo G O) D σ H) := ⟨fun pins s1 σ H D J ⟨s, q⟩ => (hb s).run pins s1 σ H D J q⟩
  ps_imp (ps_while hp hc' hb') fun D σ H ⟨E, F, hh, g, q⟩ => by
    refine ⟨fun m σ' H' => ∃ s F', SG X.K X.mg E (G s) σ' F' H' ∧ postS X.mg W E (whileF m s mc f) (fun s => outP X.K X.mg E D (fwo G O s)), ⟨n, s0, F, g.weak h0, q⟩, ?_⟩
    rintro m σ' H' ⟨s, F', g', q'⟩
    cases m with
    | zero => exact q'.elim
    | succ m =>
      obtain ⟨G0, g1, g2, g3⟩ := g'.look (r := .d .bool) (.all rfl)
      refine ⟨s, G0, g1, g2, (postS.bind q').post g' (fun F' H' x => let ⟨F2, a, _⟩ := g3 F' H' x; ⟨F2, a⟩) fun b pb F3 H3 ex => ?_⟩
      obtain ⟨F2, x2, _⟩ := g3 F3 H3 ex
      cases b with
      | true =>
        rw [if_pos rfl]
        refine ⟨fun σ'' H'' => ∃ m', m' < m + 1 ∧ ∃ s F', SG X.K X.mg E (G s) σ'' F' H'' ∧ postS X.mg W E (whileF m' s mc f) (fun s => outP X.K X.mg E D (fwo G O s)), fun _ _ z => z, s, E, F2, hh, g'.grow x2,
          postS.mono (postS.bind pb) fun o qs => ?_⟩
        cases o with
        | go s' => exact fun σ4 F4 H4 g4 => ⟨m, Nat.lt_succ_self m, s', F4, g4, qs⟩
        | brk s' => exact fun σ4 F4 H4 g4 => qs σ4 F4 H4 g4
        | out z =>
          have qs : outP X.K X.mg E D (O z) := qs
          have hz := hO z
          show outP X.K X.mg E _ (O z)
          cases e : O z with
          | nx _ => rw [e] at hz; cases hz
          | bk _ => rw [e] at hz; cases hz
          | ct _ => rw [e] at hz; cases hz
          | rt r y => rw [e] at qs; exact qs
      | false =>
        rw [if_neg Bool.false_ne_true]
        exact pb σ' F2 H3 (g'.grow x2)
/-! ## an owned list grows -/
def appO {α : Type} (xs : List α) (y : α) : Option (List α) := if xs.length < sizeLine then some (xs ++ [y]) else none
theorem own_lst {K : PySem.W.Frag} {mg : Str → Option Value} {xs : List t.den} {v : V} {F H : Hp} {fp : List Addr} (h : ol K mg (.l (.d t)) xs [v] F H fp) : ∃ q ws, v = .ref q ∧ fp = [q] ∧ H q = some (.lst ws) ∧ all2 (fun y w => rl K mg t y [w] F) xs ws := by
  obtain ⟨q, ws, fps, e1, e2, e3, r⟩ := h
  have hn : ∀ {xs : List t.den} {ws : List V} {fps : List (List Addr)}, all3 (fun x w f => ol K mg (.d t) x [w] F H f) xs ws fps → fps.flatten = [] := by
    intro xs
    induction xs with
    | nil => intro ws fps r; cases ws with
      | nil => cases fps with
        | nil => rfl
        | cons _ _ => exact r.elim
      | cons _ _ => exact r.elim
    | cons x xs ih => intro ws fps r; cases ws with
      | nil => exact r.elim
      | cons w ws => cases fps with
        | nil => exact r.elim
        | cons f fps => rw [List.flatten_cons, ih r.2, r.1.1]; rfl
  exact ⟨q, ws, (List.cons.inj e1).1, by rw [e2, hn r], e3, r.two fun x w f _ z => z.2⟩
/-- a cell of a slot is written -/
theorem SG.write {K : PySem.W.Frag} {mg : Str → Option Value} {E : Ent} {σ : L2.St} {F H : Hp} {i : Nat} {q : Addr} {ws : List V} {xs ys : List t.den} (g : SG K mg E Γ σ F H) (hi : Γ[i]? = some (.o (.l (.d t)) xs)) (hq : σ[i]? = some (some (.ref q))) (r : all2 (fun y w => rl K mg t y [w] F) ys ws) :
    SG K mg E (Γ.set i (.o (.l (.d t)) ys)) σ F (upd H q (.lst ws)) := by
  obtain ⟨e0, kp, fps, w⟩ := g
  obtain ⟨ov, e1, v, rfl, ho⟩ := w.at_ i _ hi
  rw [hq] at e1; cases e1
  obtain ⟨q', zs, e2, e3, e4, r0⟩ := own_lst ho
  cases e2
  have hil : i < Γ.length := (List.getElem?_eq_some_iff.mp hi).1
  have hqi : q ∈ fps i := by rw [e3]; exact List.mem_singleton.mpr rfl
  have nF : F q = none := (w.new i q hqi).1
  have nB : E.B q = none := (w.new i q hqi).2
  have ne : ∀ {b : Addr} {o : HO}, F b = some o → b ≠ q := fun e z => by rw [z, nF] at e; cases e
  have x0 : Ext E.F0 E.B F (upd H q (.lst ws)) := ⟨e0.f, fun b o e => by rw [upd_ne (fun z => by rw [z, nB] at e; cases e)]; exact e0.h _ _ e, fun b o e => by rw [upd_ne (ne e)]; exact e0.i _ _ e, e0.n⟩
  have w1 : Own K mg Γ σ F H E.B fps := w
  -- the other slots
  refine ⟨x0, kp, fps, fun j s e => ?_, fun j e => ?_, w.nd, w.sep, w.new⟩
  · by_cases hj : j = i
    · subst hj
      rw [List.getElem?_set_self hil] at e
      cases e
      exact ⟨_, hq, _, rfl, q, ws, ys.map fun _ => [], rfl, by rw [flat_nil, e3], upd_same, all3.of2 (fun x v z => ⟨rfl, z⟩) r⟩
    · rw [List.getElem?_set_ne (Ne.symm hj)] at e
      obtain ⟨ov, e1, r'⟩ := w.at_ j s e
      exact ⟨ov, e1, so_frame (Same.refl _) (fun a ha => upd_ne fun z => w.sep j i hj a ha (by rw [z]; exact hqi)) r'⟩
  · by_cases hj : j = i
    · subst hj
      rw [List.getElem?_set_self hil] at e; cases e
    · rw [List.getElem?_set_ne (Ne.symm hj)] at e
      exact w.out j e
/-- xs.append(e) -/
theorem bs_app (i : Nat) {xs : List t.den} {me : Mx t.den} {k : List t.den → Mx β} {n : Str} {apos cpos : Pos} (hi : Γ[i]? = some (.o (.l (.d t)) xs)) (hx : PE X (.Name n p) (tVar i)) (he : EM X W Γv e t me) (vw : Vw Γ (.d t) Γv) (hr : ∀ ys, BS X W hk (Γ.set i (.o (.l (.d t)) ys)) rest (k ys) I)
    (hbase : attributeBase (.Name n p) "append" X.env (eval (.Name n p) X.env) = eval (.Name n p) X.env := by rfl) (hfew : ((backTo cpos (starEach [e] X.env)).all (fun x => !x.1) && (backToKw cpos (keywordEach [] X.env)).all (fun x => x.1.isSome) && decide ([e].length + ([] : List Keyword).length + (if ([] : List Keyword).isEmpty then 0 else 1) < 30)) = true := by rfl)
    (hline : (apos.endLine == cpos.line) = true := by rfl) (hs : starEach [e] X.env = (false, eval e X.env) :: starEach [] X.env := by rfl) (hpl : (backTo cpos (starEach [] X.env)).any (·.1) = false := by rfl) :
    BS X W hk Γ (.Expr (.Call (.Attribute (.Name n p) "append" apos) [e] [] cpos) pos :: rest) (me >>= fun y => ofO (appO xs y) >>= k) I :=
  have hr' : PSs X rest (fun D σ H => ∃ ys, tS X.K X.mg W hk (Γ.set i (.o (.l (.d t)) ys)) (k ys) I D σ H) := ⟨fun pins s σ H D J ⟨x, q⟩ => (hr x).run pins s σ H D J q⟩
  pss_imp (pss_cons (ps_expr (pe_bm PySem.F.plainAttrs_list PySem.F.slot_list_append PySem.F.type_list_append mt_append hx (pa_cons he pa_nil hs) hbase hfew hline hs hpl)) hr') fun D σ H ⟨E, F, h, g, q⟩ => by
    obtain ⟨fps, w⟩ := g.ow
    obtain ⟨ov, e1, v, rfl, ho⟩ := w.at_ i _ hi
    obtain ⟨a, ws, rfl, e3, e4, rr⟩ := own_lst ho
    refine ⟨.ref a, e1, .inl ⟨rfl, ws, SqL.of e4⟩, ?_⟩
    obtain ⟨G, g1, g2, g3⟩ := g.look vw
    refine ⟨G, g1, g2, q.bind.post g (fun F' H' x => let ⟨F2, a, _⟩ := g3 F' H' x; ⟨F2, a⟩) fun y py u F' H' ex ru => ?_⟩
    obtain ⟨F2, x2, back⟩ := g3 F' H' ex
    have ru2 : rl X.K X.mg t y [u] F2 := back y u ru
    unfold appO at py
    by_cases hl : xs.length < sizeLine
    · rw [if_pos hl] at py
      refine ⟨a, ws, u, rfl, rfl, x2.h _ _ e4, by rw [← rr.len]; exact hl, xs ++ [y], E, F2, h, ?_, py⟩
      exact (g.grow x2).write hi e1 ((rr.imp fun z v q => rl_mono x2.f t z [v] q).app ⟨ru2, True.intro⟩)
    · rw [if_neg hl] at py; exact py.elim
/-! ## calls of the text's defs -/
section
variable (K : PySem.W.Frag) (mg : Str → Option Value)
/-- what a def promises: the arguments' code, the answer's, the mirror -/
def spF (ts : Ty) (r : Rt) (f : ts.den → Mx r.den) : Sp := fun vs H Q E => ∃ F x, Same F H ∧ rl K mg ts x vs F ∧ match f x with
  | .ok y => ∀ v F' H', Ext F H F' H' → rtr K mg r y v H F' H' → Q v H'
  | .ex e => ∀ cls d F' H', Ext F H F' H' → xr mg e cls d H' → E cls d H'
  | .no => False
end
theorem e_call {k : Nat} {f : Addr} {fd : FuncData} {ps : List Str} {ts : Ty} {g : ts.den → Mx r.den} {ma : Mx ts.den} {x : Str} {q : Pos} {es : List Expr} (Fn : FnOk X.prog X.w X.K X.mg X.base (L2.CX X.prog X.w) k f fd ps (spF X.K X.mg ts r g)) (hr : Room k X.A) (hg : Gl X x) (hm : X.mg x = some (.ref f)) (hkp : PySem.W.keepIn X.K (.ref f) = true)
    (hb : Binds X.K fd ps []) (tk : Takes X W) (ha : EA X W Γ (e :: es) ts ma) (hdb : (x == ("__debug__" : Str)) = false := by decide) (he : starEach (e :: es) X.env = (false, eval e X.env) :: starEach es X.env := by rfl) (hpl : (backTo pos (starEach es X.env)).any (·.1) = false := by rfl) :
    ER X W Γ (.Call (.Name x q) (e :: es) [] pos) r (ma >>= g) :=
  pe_imp (pe_callSD Fn hr hg hm hkp hb .nil (fun σ => passAt tk σ) ha hdb he hpl) fun σ H Q ⟨F, s, d, p⟩ => ⟨F, s, d, p.bind.mono fun z pz vs F1 H1 e1 r1 => by
    refine ⟨F1, z, e1.i, by rw [List.append_nil]; exact r1, ?_⟩
    cases hgz : g z with
    | no => rw [hgz] at pz; exact pz
    | ex y => rw [hgz] at pz; exact fun cls d F' H' x r => pz cls d F' H' (e1.trans x) r
    | ok y => rw [hgz] at pz; exact fun v F' H' x r => pz v F' H' (e1.trans x) (rtr_pre e1.h r)⟩
end
/-! ## a def's body -/
def ctxA : (ts : Ty) → ts.den → Ctx
  | .pr t ts, x => .d t x.1 :: ctxA ts x.2
  | _, _ => []
def Ty.args : Ty → Option Nat
  | .pr t ts => if t.sing then ts.args.map (· + 1) else none
  | .nl => some 0
  | _ => none
theorem args_len {K : PySem.W.Frag} {mg : Str → Option Value} {F : Hp} : ∀ {ts : Ty} {n : Nat} {x : ts.den} {vs : List V}, ts.args = some n → rl K mg ts x vs F → vs.length = n ∧ (ctxA ts x).length = n ∧ ∀ (i : Nat) (s : Slot), (ctxA ts x)[i]? = some s → ∃ v : V, vs[i]? = some v ∧ ∃ (t : Ty) (y : t.den), s = Slot.d t y ∧ rl K mg t y [v] F
  | .pr t ts, n, x, vs, h, r => by
    obtain ⟨v, r', rfl, p, q⟩ := r
    have h' : (if t.sing then ts.args.map (· + 1) else none) = some n := h
    by_cases ht : t.sing = true
    · rw [if_pos ht] at h'
      cases e : ts.args with
      | none => rw [e] at h'; cases h'
      | some m =>
        rw [e] at h'
        have hn : m + 1 = n := Option.some.inj h'
        obtain ⟨h1, h2, h3⟩ := args_len (ts := ts) e q
        refine ⟨by rw [List.length_cons, h1, hn], by show (ctxA ts x.2).length + 1 = n; rw [h2, hn], fun i s es => ?_⟩
        cases i with
        | zero => exact ⟨v, rfl, t, x.1, by simpa [ctxA] using es.symm, p⟩
        | succ i => exact h3 i s (by simpa [ctxA] using es)
    · rw [if_neg ht] at h'; cases h'
  | .nl, n, x, vs, h, r => by cases h; rw [show vs = _ from r]; exact ⟨rfl, rfl, fun i s e => by simp [ctxA] at e⟩
def ctx0 (ts : Ty) (x : ts.den) (n : Nat) : Ctx := ctxA ts x ++ List.replicate n .no
theorem sg_start {K : PySem.W.Frag} {mg : Str → Option Value} {F H : Hp} {ts : Ty} {n : Nat} {x : ts.den} {vs : List V} {N : List Str} (hs : Same F H) (ha : ts.args = some n) (r : rl K mg ts x vs F) : SG K mg ⟨F, H, [], L2.start N vs⟩ (ctx0 ts x (N.length - n)) (L2.start N vs) F H := by
  obtain ⟨h1, h2, h3⟩ := args_len ha r
  refine ⟨Ext.refl hs, fun i hi => (nomatch hi), fun _ => [], fun i s e => ?_, fun _ _ => rfl, fun _ => List.nodup_nil, fun _ _ _ a ha => (nomatch ha), fun _ a ha => (nomatch ha)⟩
  unfold ctx0 at e
  unfold L2.start
  by_cases hi : i < n
  · rw [List.getElem?_append_left (by rw [h2]; exact hi)] at e
    obtain ⟨v, e1, t, y, rfl, r'⟩ := h3 i s e
    exact ⟨some v, by rw [List.getElem?_append_left (by rw [List.length_map, h1]; exact hi), List.getElem?_map, e1]; rfl, rfl, v, rfl, r'⟩
  · rw [List.getElem?_append_right (by rw [h2]; omega), h2, List.getElem?_replicate] at e
    split at e
    · rename_i hlt
      cases e
      exact ⟨none, by rw [List.getElem?_append_right (by rw [List.length_map, h1]; omega), List.length_map, h1, List.getElem?_replicate, if_pos hlt], rfl⟩
    · cases e
theorem fn_body {P : Program} {w : World} {K : PySem.W.Frag} {mg : Str → Option Value} {base : Heap} {x qual : Str} {st : Stmt} {f : Addr} {fd : FuncData} {N ps : List Str} {k : Nat} {ts : Ty} {r : Rt} {g : ts.den → Mx r.den} (F : Fun K x qual st f fd) (S : FnScope N ps (defScope st)) (ha : ts.args = some ps.length)
    (hb : ∀ (cdv : Value) (A : Around) (outer : List Env) (s : Shared) (H : Hp) (E : XK), Room k (A.deeper (envOfC qual (defScope st) s.heap.objs.size f cdv)) → Takes (cxOf (L2.CX P w) P w K mg base N qual (defScope st) f cdv A outer s H E) (fun cls d _ H => E cls d H) →
      PassesOwn (model P w) (A.deeper (envOfC qual (defScope st) s.heap.objs.size f cdv)) (envOfC qual (defScope st) s.heap.objs.size f cdv) (cxOf (L2.CX P w) P w K mg base N qual (defScope st) f cdv A outer s H E).xe →
      ∀ x : ts.den, BS (cxOf (L2.CX P w) P w K mg base N qual (defScope st) f cdv A outer s H E) (fun cls d _ H => E cls d H) [] (ctx0 ts x (N.length - ps.length)) (defBody st) (g x) (fun y => .rt r y)) :
    FnOk P w K mg base (L2.CX P w) (k + 1) f fd ps (spF K mg ts r g) := by
  refine F.okX S (fun vs H Q E h => ?_) (fun cdv A outer s H vs Q E hr h => ?_)
  · obtain ⟨G, y, hs, rr, _⟩ := h
    exact (args_len ha rr).1
  · obtain ⟨G, y, hs, rr, q⟩ := h
    refine ⟨_, hb cdv A outer s H E hr (takes_of rfl rfl rfl rfl) (passes_of rfl) y, ⟨G, H, [], L2.start N vs⟩, G, rfl, sg_start hs ha rr, ?_⟩
    cases e : g y with
    | no => rw [e] at q; exact q
    | ex z => rw [e] at q; exact fun cls d σ F' H' x _ r => q cls d F' H' x r
    | ok z => rw [e] at q; exact fun v F' H' x r => q v F' H' x r
end Gm
set_option Elab.async false
set_option linter.all false
set_option maxRecDepth 100000
set_option maxHeartbeats 4000000
namespace Gm
open PySem PySem.Spec L2

theorem okb {α β : Type} (a : α) (f : α → Mx β) : (Mx.ok a >>= f) = f a := id rfl
theorem Mx.ok_right {α : Type} (m : Mx α) : (m >>= fun x => Mx.ok x) = m := by cases m <;> rfl
section
variable {X : Cx} {W : WX} {hk : List Nat} {Γ Γv : Ctx} {st : Stmt} {rest : List Stmt} {β : Type} {r : Rt} {I : β → Out}
theorem b_setL (i : Nat) {me : Mx r.den} {k : r.den → Mx β} (hs : PS X st (tAsg (tR X.mg X.K W Γv r me) (gName i))) (vw : Vw Γ r Γv) (hr : ∀ x, BS X W hk (Γ.set i (slotOf r x)) rest (k x) I) (hb : Nat.ble (i + 1) Γ.length = true) (hn : hk.contains i = false) : BS X W hk Γ (st :: rest) (me >>= k) I :=
  bs_set (i := i) hs vw hr (Nat.le_of_ble_eq_true hb) (fun h => by rw [List.contains_iff_mem.mpr h] at hn; cases hn)
theorem b_setLF (i : Nat) {o : Ow} {me : Mx o.ty.den} {k : o.ty.den → Mx β} (hs : PS X st (tAsg (tR X.mg X.K W Γv (.o o) me) (gName i))) (vw : Vw Γ (.o o) Γv) (hr : ∀ x, BS X W hk (Γ.set i (.d o.ty x)) rest (k x) I) (hb : Nat.ble (i + 1) Γ.length = true) (hn : hk.contains i = false) : BS X W hk Γ (st :: rest) (me >>= k) I :=
  b_setL (X := X) (r := .o o) i hs vw (fun y => bs_freeze i (o := o) (x := y) (List.getElem?_set_self (Nat.le_of_ble_eq_true hb)) (by rw [List.set_set]; exact hr y)) hb hn
end
section
variable {X : Cx} {W : WX} {hk : List Nat} {Γ Γ' Γv : Ctx} {st : Stmt} {rest A B' : List Stmt} {a b e c tg : Expr} {pos p : Pos} {β γ : Type} {r : Rt} {t : Ty} {I : β → Out}
/-- the name in the i-th place -/
theorem vL (i : Nat) {x : Str} (hN : X.N[i]? = some x) (hv : X.env.scope.names.lookup x = some .local) (hd : ((x == ("__debug__" : Str)) || (x == ("__classdict__" : Str))) = false) : PE X (.Name x p) (tVar i) :=
  pv i hN (.inl hv) ((Bool.or_eq_false_iff.mp hd).1) ((Bool.or_eq_false_iff.mp hd).2)
theorem vC (i : Nat) {x : Str} (hN : X.N[i]? = some x) (hv : X.env.scope.names.lookup x = some .cell) (hd : ((x == ("__debug__" : Str)) || (x == ("__classdict__" : Str))) = false) : PE X (.Name x p) (tVar i) :=
  pv i hN (.inr (.inl hv)) ((Bool.or_eq_false_iff.mp hd).1) ((Bool.or_eq_false_iff.mp hd).2)
theorem vF (i : Nat) {x : Str} (hN : X.N[i]? = some x) (hv : X.env.scope.names.lookup x = some .free) (hd : ((x == ("__debug__" : Str)) || (x == ("__classdict__" : Str))) = false) : PE X (.Name x p) (tVar i) :=
  pv i hN (.inr (.inr hv)) ((Bool.or_eq_false_iff.mp hd).1) ((Bool.or_eq_false_iff.mp hd).2)
/-- name = e -/
theorem b_set (i : Nat) {x : Str} {me : Mx r.den} {k : r.den → Mx β} {pos' : Pos} (he : ER X W Γv e r me) (vw : Vw Γ r Γv) (hr : ∀ x, BS X W hk (Γ.set i (slotOf r x)) rest (k x) I) (hN : X.N.Nodup) (hi : X.N[i]? = some x) (hl : Loc X.env.scope x) (hf : X.fn x = true ∨ X.env.scope.names.lookup x = some .local)
    (hb : Nat.ble (i + 1) Γ.length = true) (hn : hk.contains i = false) (hs : swapsWith e (some (.Name x pos')) pos.line X.env = pure false) : BS X W hk Γ (.Assign [.Name x pos'] e pos :: rest) (me >>= k) I :=
  bs_set (i := i) (ps_set hN hi hl he hs hf) vw hr (Nat.le_of_ble_eq_true hb) (fun h => by rw [List.contains_iff_mem.mpr h] at hn; cases hn)
/-- name = a new list, from now on data -/
theorem b_setF (i : Nat) {x : Str} {o : Ow} {me : Mx o.ty.den} {k : o.ty.den → Mx β} {pos' : Pos} (he : EO X W Γv e o me) (vw : Vw Γ (.o o) Γv) (hr : ∀ x, BS X W hk (Γ.set i (.d o.ty x)) rest (k x) I) (hN : X.N.Nodup) (hi : X.N[i]? = some x) (hl : Loc X.env.scope x) (hf : X.fn x = true ∨ X.env.scope.names.lookup x = some .local)
    (hb : Nat.ble (i + 1) Γ.length = true) (hn : hk.contains i = false) (hs : swapsWith e (some (.Name x pos')) pos.line X.env = pure false) : BS X W hk Γ (.Assign [.Name x pos'] e pos :: rest) (me >>= k) I :=
  b_set (r := .o o) i he vw (fun y => bs_freeze i (o := o) (x := y) (List.getElem?_set_self (Nat.le_of_ble_eq_true hb)) (by rw [List.set_set]; exact hr y)) hN hi hl hf hb hn hs
/-- return e at the end of a def -/
theorem b_ret {me : Mx r.den} (he : ER X W Γv e r me) (vw : Vw Γ r Γv) : BS X W hk Γ (.Return (some e) pos :: rest) me (fun y => .rt r y) :=
  bs_cast (bs_ret (b := fun x => x) he vw (fun _ => rfl)) (Mx.ok_right me)
theorem all_ix {is hk : List Nat} {Γ : Ctx} (h : is.all (fun i => Nat.ble (i + 1) Γ.length && !(hk.contains i)) = true) : ∀ i ∈ is, i < Γ.length ∧ i ∉ hk := fun i hi => by
  have := List.all_eq_true.mp h i hi
  rw [Bool.and_eq_true] at this
  exact ⟨Nat.le_of_ble_eq_true this.1, fun z => by rw [List.contains_iff_mem.mpr z] at this; exact absurd this.2 (by simp)⟩
theorem mark_ne (b : Expr) : behindInMarks .NotEq b = false := nomark b
theorem mark_of {op : CmpOp} (b : Expr) (h : (match op with | .In => false | .NotIn => false | _ => true) = true) : behindInMarks op b = false := nomark b (fun z => by subst z; cases h) (fun z => by subst z; cases h)
theorem e_cast {me me' : Mx r.den} (h : ER X W Γ e r me) (q : me = me') : ER X W Γ e r me' := q ▸ h
theorem t_cast {me me' : Mx Bool} (h : ET X W Γ e me) (q : me = me') : ET X W Γ e me' := q ▸ h
theorem ts_cast {es : List Expr} {me me' : Mx Bool} (h : ETs X W Γ es me) (q : me = me') : ETs X W Γ es me' := q ▸ h
theorem bs_brk {b : β} (hI : I b = .bk Γ') (w : Wk Γ' Γ) : BS X W hk Γ (.Break pos :: rest) (.ok b) I := pss_imp (pss_cons ps_break pss_never) fun D σ H ⟨E, F, h, g, q⟩ => by
  have q : outP X.K X.mg E D (I b) := q
  rw [hI] at q
  exact q σ F H (g.weak w)
/-- if c: A (which leaves); the rest -/
theorem bs_ifL {mc : Mx Bool} {mA : Mx γ} {m : Mx β} {A : List Stmt} {I' : γ → Out} (j : γ → β) (hc : ET X W Γ c mc) (hA : BS X W hk Γ A mA I') (hr : BS X W hk Γ rest m I) (hI : ∀ b, I (j b) = I' b) (hs : ∀ b, (I' b).stays = false) : BS X W hk Γ (.If c A [] pos :: rest) (mc >>= fun x => if x then mA >>= fun r => .ok (j r) else m) I :=
  pss_imp (pss_cons (ps_if hc hA pss_nil) hr) fun D σ H ⟨E, F, h, g, q⟩ => by
    obtain ⟨G, g1, g2, g3⟩ := g.look (r := .d .bool) (.all rfl)
    refine ⟨G, g1, g2, q.bind.post g (fun F' H' x => let ⟨F2, a, _⟩ := g3 F' H' x; ⟨F2, a⟩) fun x px F' H' ex => ?_⟩
    obtain ⟨F2, x2, back⟩ := g3 F' H' ex
    cases x with
    | true =>
      refine ⟨E, F2, h, g.grow x2, postS.mono (postS.bind px) fun b qb => ?_⟩
      have qb : outP X.K X.mg E D (I (j b)) := qb
      rw [hI] at qb
      have hx := hs b
      cases e : I' b with
      | nx Γ => rw [e] at hx; cases hx
      | rt r y => rw [e] at qb; exact qb
      | bk Γ => rw [e] at qb; exact qb
      | ct Γ => rw [e] at qb; exact qb
    | false => exact ⟨E, F2, h, g.grow x2, px⟩
/-- how often a while may turn, at most -/
@[irreducible] def fuel : Nat := 1000000
/-- the name of a built-in type -/
theorem n_ty {x : Str} {T' : String} (hg : Gl X x) (hm : X.mg x = none) (hv : bootBuiltins x = some (.type T')) (hn : x ≠ "__name__") (hd : (x == ("__debug__" : Str)) = false) : PE X (.Name x p) (tC (.ty T')) := pe_bltn hg hm hv rfl hn hd
/-- a look at a comprehension's scope -/
def blkC (N : List Str) (sc scope : Scope) (own : List (Str × Nat)) : Bool :=
  decide (scope.kind = .function) && scope.names.all (fun y => decide (scope.names.lookup y.1 = some y.2)) && own.all (fun p => decide (N[p.2]? = some p.1)) &&
  scope.names.all (fun y => !decide (y.2 = .free) || (decide (sc.names.lookup y.1 = some .cell) || decide (sc.names.lookup y.1 = some .free))) &&
  scope.names.all (fun y => !(decide (y.2 = .local) || decide (y.2 = .cell)) || (decide (y.1 ∈ own.map (·.1)) || decide (y.1 ∉ N)))
theorem blk_by (N : List Str) (sc : Scope) {scope : Scope} {own : List (Str × Nat)} (h : blkC N sc scope own = true) : BlkOk N sc scope own := by
  unfold blkC at h
  simp only [Bool.and_eq_true, decide_eq_true_eq, List.all_eq_true, Bool.or_eq_true, Bool.not_eq_true', decide_eq_false_iff_not, Bool.or_eq_false_iff] at h
  obtain ⟨⟨⟨⟨h1, h2⟩, h3⟩, h4⟩, h5⟩ := h
  refine ⟨h1, h2, h3, fun y hy e => (h4 y hy).resolve_left fun z => z e, fun y hy e => (h5 y hy).resolve_left fun z => ?_⟩
  rcases e with e | e
  · exact z.1 e
  · exact z.2 e
/-- a value that may be None, where it is none -/
def getO {α : Type} : Option α → Mx α
  | some x => .ok x
  | none => .no
theorem e_get {m : Mx (Option t.den)} (ha : EM X W Γ a (.opt t) m) : EM X W Γ a t (m >>= getO) := pe_imp ha fun σ H Q ⟨F, s, d, p⟩ => ⟨F, s, d, p.bind.mono fun x px v F1 H1 e1 r1 => by
  cases x with
  | none => exact px.elim
  | some y => exact px v F1 H1 e1 r1.2⟩
end
end Gm
namespace Gm
open PySem PySem.Spec L2
open PyProof.Rows (envOfC)
theorem fn_bodyD {P : Program} {w : World} {K : PySem.W.Frag} {mg : Str → Option Value} {base : Heap} {x qual : Str} {st : Stmt} {f : Addr} {fd : FuncData} {dvs : List V} {kws : List (Str × V)} {N ps : List Str} {k : Nat} {ts : Ty} {r : Rt} {g : ts.den → Mx r.den} (F : FunD K x qual (defArgs st) (defBody st) (defScope st) dvs kws f fd) (S : FnScope N ps (defScope st)) (ha : ts.args = some ps.length)
    (hb : ∀ (cdv : Value) (A : Around) (outer : List Env) (s : Shared) (H : Hp) (E : XK), Room k (A.deeper (envOfC qual (defScope st) s.heap.objs.size f cdv)) → Takes (cxOf (L2.CX P w) P w K mg base N qual (defScope st) f cdv A outer s H E) (fun cls d _ H => E cls d H) →
      PassesOwn (model P w) (A.deeper (envOfC qual (defScope st) s.heap.objs.size f cdv)) (envOfC qual (defScope st) s.heap.objs.size f cdv) (cxOf (L2.CX P w) P w K mg base N qual (defScope st) f cdv A outer s H E).xe →
      ∀ x : ts.den, BS (cxOf (L2.CX P w) P w K mg base N qual (defScope st) f cdv A outer s H E) (fun cls d _ H => E cls d H) [] (ctx0 ts x (N.length - ps.length)) (defBody st) (g x) (fun y => .rt r y)) :
    FnOk P w K mg base (L2.CX P w) (k + 1) f fd ps (spF K mg ts r g) := by
  refine F.ok S (fun vs H Q E h => ?_) (fun cdv A outer s H vs Q E hr h => ?_)
  · obtain ⟨G, y, hs, rr, _⟩ := h
    exact (args_len ha rr).1
  · obtain ⟨G, y, hs, rr, q⟩ := h
    refine ⟨_, hb cdv A outer s H E hr (takes_of rfl rfl rfl rfl) (passes_of rfl) y, ⟨G, H, [], L2.start N vs⟩, G, rfl, sg_start hs ha rr, ?_⟩
    cases e : g y with
    | no => rw [e] at q; exact q
    | ex z => rw [e] at q; exact fun cls d σ F' H' x _ r => q cls d F' H' x r
    | ok z => rw [e] at q; exact fun v F' H' x r => q v F' H' x r
/-- the law's promise -/
def spL (K : PySem.W.Frag) (n : Nat) : Sp := fun vs H Q _ => ∃ (a : Addr) (ns : List Int), vs = [.ref a] ∧ SqL K H a (ns.map V.int) ∧ ns.length ≤ n ∧ ∀ H', Q (.bl true) H'
theorem spL_imp {K : PySem.W.Frag} {mg : Str → Option Value} {f : List Int → Mx Bool} {n : Nat} (h : ∀ ns : List Int, ns.length ≤ n → f ns = .ok true) (vs : List V) (H : Hp) (Q : VK) (E : XK) (q : spL K n vs H Q E) : spF K mg (.pr .scr .nl) (.d .bool) (fun x => f x.1) vs H Q E := by
  obtain ⟨a, ns, rfl, hs, hl, k⟩ := q
  refine ⟨H, (ns, ()), Same.refl H, ⟨.ref a, [], rfl, ⟨a, rfl, hs⟩, rfl⟩, ?_⟩
  simp only [h ns hl]
  intro v F' H' x r
  cases (List.cons.inj (show [v] = _ from r)).1
  exact k H'
theorem cx_end {P : Program} {w : World} (H : Hp) (s : Shared) (e : Value) (s' : Shared) (h : L2.CX P w [] H s (fun _ _ _ => False) e s') : False := by
  obtain ⟨_, _, _, _, _, _, _, _, _, _, _, _, z⟩ := h
  exact z
/-- the end of a law whose promise hangs on the world -/
theorem walk_w {l : PySem.W.OpenLaw} {n k : Nat} {q : Program} {loose : List Str} {XP : (Str → Option Value) → Heap → Prop} {YP : World → Heap → Prop} {d : DefRec} {CX : World → CXT} {x : Str}
    (hn : l.most = some n) (hn2 : n ≤ sizeLine) (hdf : d.params.defaults = []) (hr : Room k PySem.callerA)
    (F : ∀ (w : World) (mg : Str → Option Value) (fa : Addr) (h : Heap), YP w h → h.Ns mainGlobals mg → mg d.name = some (.ref fa) →
      ∃ (K : PySem.W.Frag) (fd : FuncData) (sp : Sp), K.In h ∧ (∀ (s : Shared) (u : Value), BindsTo s fd ⟨[u], []⟩ [(x, u)]) ∧
        (∀ (H : Hp) (a : Addr) (ns : List Int), ns.length ≤ n → Only H → SqL K H a (ns.map V.int) → sp [.ref a] H (fun v _ => v = .bl true) fun _ _ _ => False) ∧
        ∀ base : Heap, K.In base → base.Ns mainGlobals mg → FnOk l.prog w K mg base (CX w) k fa fd [x] sp)
    (hCX : ∀ (w : World) (H : Hp) (s : Shared) (e : Value) (s' : Shared), CX w [] H s (fun _ _ _ => False) e s' → False) :
    PySem.W.WalkO q loose XP YP l.row.toRowW d [] (fun f vs => PySem.call f vs) := by
  refine Att.attach_call hn hdf fun w s0 s1 mg mb fa o pm cd doc a vs ns G Y ho hd hcd hmg hobj hints hlen hg => ?_
  obtain ⟨K, fd, sp, KX, hb, hsp, hF⟩ := F w mg fa _ Y G.T.g hmg
  exact law_call KX G.T.g G.T.b G.T.builtins G.T.nolimit hg hobj hints (Nat.le_trans hlen hn2) hr hF hb (fun H hO hS => hsp H a ns hlen hO hS) fun H e s' => hCX w H s1 e s'
end Gm
set_option Elab.async false
set_option linter.all false
set_option maxRecDepth 100000
set_option maxHeartbeats 1000000
namespace Gm
open PySem PySem.Spec L2

/-! ## plain words: a mirror that ends well -/
def Sat {α : Type} (m : Mx α) (P : α → Prop) : Prop := ∃ x, m = .ok x ∧ P x
section
variable {α β S R : Type}
theorem Sat.ok {x : α} {P : α → Prop} (h : P x) : Sat (.ok x) P := ⟨x, rfl, h⟩
theorem Sat.ok_inv {x : α} {P : α → Prop} (h : Sat (.ok x) P) : P x := by obtain ⟨y, e, h⟩ := h; cases e; exact h
theorem Sat.bind {m : Mx α} {f : α → Mx β} {P : α → Prop} {Q : β → Prop} (h : Sat m P) (k : ∀ x, P x → Sat (f x) Q) : Sat (m >>= f) Q := by
  obtain ⟨x, rfl, h⟩ := h
  exact k x h
theorem Sat.mono {m : Mx α} {P Q : α → Prop} (h : Sat m P) (k : ∀ x, P x → Q x) : Sat m Q := by
  obtain ⟨x, e, h⟩ := h
  exact ⟨x, e, k x h⟩
theorem Sat.eq {m : Mx α} {x : α} (h : Sat m (fun y => y = x)) : m = .ok x := by
  obtain ⟨y, e, rfl⟩ := h
  exact e
theorem Sat.of {m : Mx α} {x : α} {P : α → Prop} (e : m = .ok x) (h : P x) : Sat m P := ⟨x, e, h⟩
theorem Sat.and {m : Mx α} {P Q : α → Prop} (h : Sat m P) (k : Sat m Q) : Sat m (fun x => P x ∧ Q x) := by
  obtain ⟨x, e, h⟩ := h
  obtain ⟨y, e2, k⟩ := k
  rw [e] at e2; cases e2
  exact ⟨x, e, h, k⟩
theorem Sat.ite {c : Prop} [Decidable c] {a b : Mx α} {P : α → Prop} (h1 : c → Sat a P) (h2 : ¬c → Sat b P) : Sat (if c then a else b) P := by
  by_cases h : c
  · rw [if_pos h]; exact h1 h
  · rw [if_neg h]; exact h2 h
theorem ok_okb (x : α) (f : α → Mx β) : (Mx.ok x >>= f) = f x := rfl
theorem Mx.assoc {γ : Type} (m : Mx α) (f : α → Mx β) (g : β → Mx γ) : ((m >>= f) >>= g) = (m >>= fun x => f x >>= g) := by cases m <;> rfl
/-! ### loops -/
theorem sat_loop_aux {I : Nat → S → Prop} {f : S → α → Mx S} : ∀ (xs : List α) (n : Nat) (s0 : S), I n s0 → (∀ i s x, xs[i]? = some x → I (n + i) s → Sat (f s x) (I (n + i + 1))) → Sat (loopS xs s0 f) (I (n + xs.length))
  | [], n, s0, h, _ => ⟨s0, rfl, h⟩
  | x :: xs, n, s0, h, st => by
    refine (st 0 s0 x rfl h).bind fun s1 h1 => ?_
    have := sat_loop_aux xs (n + 1) s1 h1 fun i s y hy hi => by
      have := st (i + 1) s y (by simpa using hy) (by rw [show n + (i + 1) = n + 1 + i by omega]; exact hi)
      rw [show n + 1 + i + 1 = n + (i + 1) + 1 by omega]; exact this
    rw [List.length_cons, show n + (xs.length + 1) = n + 1 + xs.length by omega]
    exact this
theorem sat_loop (I : Nat → S → Prop) {f : S → α → Mx S} {xs : List α} {s0 : S} (h0 : I 0 s0) (st : ∀ i s x, xs[i]? = some x → I i s → Sat (f s x) (I (i + 1))) : Sat (loopS xs s0 f) (I xs.length) := by
  have := sat_loop_aux (I := I) (f := f) xs 0 s0 h0 (by intro i s x e h; rw [Nat.zero_add] at h ⊢; exact st i s x e h)
  rw [Nat.zero_add] at this; exact this
theorem sat_loopF_aux {I : Nat → S → Prop} {Q : Fw S R → Prop} {f : S → α → Mx (Lp S R)} : ∀ (xs : List α) (n : Nat) (s0 : S), I n s0 → (∀ i s x, xs[i]? = some x → I (n + i) s → Sat (f s x) fun o => match o with
      | .go s' => I (n + i + 1) s'
      | .brk s' => Q (.go s')
      | .out r => Q (.out r)) → (∀ s, I (n + xs.length) s → Q (.go s)) → Sat (loopF xs s0 f) Q
  | [], n, s0, h, _, q => ⟨.go s0, rfl, q s0 h⟩
  | x :: xs, n, s0, h, st, q => by
    refine (st 0 s0 x rfl h).bind fun o ho => ?_
    cases o with
    | go s1 =>
      refine sat_loopF_aux xs (n + 1) s1 ho (fun i s y hy hi => ?_) fun s hs => q s (by rw [List.length_cons, show n + (xs.length + 1) = n + 1 + xs.length by omega]; exact hs)
      have := st (i + 1) s y (by simpa using hy) (by rw [show n + (i + 1) = n + 1 + i by omega]; exact hi)
      rw [show n + 1 + i + 1 = n + (i + 1) + 1 by omega]; exact this
    | brk s1 => exact ⟨.go s1, rfl, ho⟩
    | out r => exact ⟨.out r, rfl, ho⟩
theorem sat_loopF (I : Nat → S → Prop) {Q : Fw S R → Prop} {f : S → α → Mx (Lp S R)} {xs : List α} {s0 : S} (h0 : I 0 s0) (st : ∀ i s x, xs[i]? = some x → I i s → Sat (f s x) fun o => match o with
      | .go s' => I (i + 1) s'
      | .brk s' => Q (.go s')
      | .out r => Q (.out r)) (q : ∀ s, I xs.length s → Q (.go s)) : Sat (loopF xs s0 f) Q :=
  sat_loopF_aux (I := I) xs 0 s0 h0 (by intro i s x e h; rw [Nat.zero_add] at h ⊢; exact st i s x e h) (by rw [Nat.zero_add]; exact q)
theorem sat_fwk {m : Mx (Fw S R)} {k : S → Mx β} {j : R → β} {P : Fw S R → Prop} {Q : β → Prop} (h : Sat m P) (h1 : ∀ s, P (.go s) → Sat (k s) Q) (h2 : ∀ r, P (.out r) → Q (j r)) : Sat (m >>= fwk k j) Q := by
  refine h.bind fun o ho => ?_
  cases o with
  | go s => exact h1 s ho
  | out r => exact ⟨j r, rfl, h2 r ho⟩
/-- while: each turn takes from the measure -/
theorem sat_while (I : S → Prop) (μ : S → Nat) {c : S → Mx Bool} {f : S → Mx S} (Q : S → Prop) (st : ∀ s, I s → Sat (c s) fun b => if b = true then Sat (f s) (fun s' => I s' ∧ μ s' < μ s) else Q s) :
    ∀ (n : Nat) (s0 : S), I s0 → μ s0 < n → Sat (whileS n s0 c f) Q
  | 0, s0, _, h => absurd h (Nat.not_lt_zero _)
  | n + 1, s0, h0, h => by
    refine (st s0 h0).bind fun b hb => ?_
    cases b with
    | false => exact ⟨s0, rfl, hb⟩
    | true =>
      rw [if_pos rfl] at hb ⊢
      exact hb.bind fun s1 h1 => sat_while I μ Q st n s1 h1.1 (by omega)
theorem fuel_eq : fuel = 1000000 := by unfold fuel; rfl
/-! ### comprehensions -/
theorem compL_eq {g : α → Option β} {f : α → Mx (Option β)} : ∀ {xs : List α}, (∀ x ∈ xs, f x = .ok (g x)) → compL xs f = .ok (xs.filterMap g)
  | [], _ => rfl
  | x :: xs, h => by
    have e : compL (x :: xs) f = match f x with
      | .ok o => compL xs f >>= fun r => .ok (optC o r)
      | _ => .no := rfl
    rw [e, h x (List.mem_cons_self ..), compL_eq fun y hy => h y (List.mem_cons_of_mem _ hy), List.filterMap_cons]
    cases g x <;> rfl
theorem comp_eq {g : α → Option β} {f : α → Mx (Option β)} {xs : List α} (hl : xs.length ≤ sizeLine) (h : ∀ x ∈ xs, f x = .ok (g x)) : compO xs f = .ok (xs.filterMap g) := by
  unfold compO; rw [if_pos hl]; exact compL_eq h
theorem comp_map {g : α → β} {mt : α → Mx Bool} {me : α → Mx β} {xs : List α} (hl : xs.length ≤ sizeLine) (h : ∀ x ∈ xs, mt x = .ok true ∧ me x = .ok (g x)) : compO xs (compF mt me) = .ok (xs.map g) := by
  rw [comp_eq (g := fun x => some (g x)) hl fun x hx => by unfold compF; rw [(h x hx).1, ok_okb, if_pos rfl, (h x hx).2]; rfl]
  simp
theorem comp_filter {c : α → Bool} {g : α → β} {mt : α → Mx Bool} {me : α → Mx β} {xs : List α} (hl : xs.length ≤ sizeLine) (h : ∀ x ∈ xs, mt x = .ok (c x) ∧ (c x = true → me x = .ok (g x))) : compO xs (compF mt me) = .ok ((xs.filter c).map g) := by
  rw [comp_eq (g := fun x => if c x = true then some (g x) else none) hl fun x hx => by
    unfold compF
    rw [(h x hx).1, ok_okb]
    by_cases hc : c x = true
    · rw [if_pos hc, if_pos hc, (h x hx).2 hc]; rfl
    · rw [if_neg hc, if_neg hc]]
  congr 1
  induction xs with
  | nil => rfl
  | cons x xs ih =>
    rw [List.filterMap_cons, List.filter_cons]
    have ih' := ih (by rw [List.length_cons] at hl; omega) fun y hy => h y (List.mem_cons_of_mem _ hy)
    by_cases hc : c x = true
    · rw [if_pos hc, if_pos hc, List.map_cons]; simp only; rw [ih']
    · rw [if_neg hc, if_neg hc]; simp only; rw [ih']
/-- each element by a promise -/
theorem sat_comp {P : α → β → Prop} {mt : α → Mx Bool} {me : α → Mx β} : ∀ {xs : List α}, xs.length ≤ sizeLine → (∀ x ∈ xs, mt x = .ok true ∧ Sat (me x) (P x)) → Sat (compO xs (compF mt me)) fun ys => ys.length = xs.length ∧ ∀ (i : Nat) (x : α) (y : β), xs[i]? = some x → ys[i]? = some y → P x y := by
  intro xs hl h
  unfold compO; rw [if_pos hl]; clear hl
  induction xs with
  | nil => exact ⟨[], rfl, rfl, fun i x y e => by simp at e⟩
  | cons x xs ih =>
    obtain ⟨h1, y, h2, h3⟩ := h x (List.mem_cons_self ..)
    obtain ⟨ys, h4, h5, h6⟩ := ih fun y hy => h y (List.mem_cons_of_mem _ hy)
    refine ⟨y :: ys, ?_, by rw [List.length_cons, List.length_cons, h5], fun i a b ha hb => ?_⟩
    · have e : compL (x :: xs) (compF mt me) = match compF mt me x with
        | .ok o => compL xs (compF mt me) >>= fun r => .ok (optC o r)
        | _ => .no := rfl
      have e2 : compF mt me x = .ok (some y) := by unfold compF; rw [h1, ok_okb, if_pos rfl, h2]; rfl
      rw [e, e2, h4]; rfl
    · cases i with
      | zero => simp at ha hb; subst ha; subst hb; exact h3
      | succ i => exact h6 i a b (by simpa using ha) (by simpa using hb)
end
/-! ### operators -/
theorem mod_ok {x y : Int} (h : 0 < y) : ofO (modO x y) = .ok (x % y) := by unfold modO; rw [if_pos h]; rfl
theorem div_ok {x y : Int} (h : 0 < y) (h2 : y < 1073741824) : ofO (divO x y) = .ok (x / y) := by unfold divO; rw [if_pos ⟨h, h2⟩]; rfl
theorem mul_l {x y : Int} (h : -18446744073709551616 < x) (h2 : x < 18446744073709551616) : ofO (mulO x y) = .ok (x * y) := by unfold mulO; rw [if_pos (.inl ⟨h, h2⟩)]; rfl
theorem mul_r {x y : Int} (h : -18446744073709551616 < y) (h2 : y < 18446744073709551616) : ofO (mulO x y) = .ok (x * y) := by unfold mulO; rw [if_pos (.inr ⟨h, h2⟩)]; rfl
theorem pow_ok {x y : Int} (h : 0 ≤ y) (h2 : y ≤ 1000000) (h3 : x.natAbs < 18446744073709551616) : ofO (powO x y) = .ok (x ^ y.toNat) := by unfold powO; rw [if_pos ⟨h, h2, h3⟩]; rfl
theorem size_eq : sizeLine = 16777216 := rfl
theorem app_ok {α : Type} {xs : List α} {y : α} (h : xs.length < 16777216) : ofO (appO xs y) = .ok (xs ++ [y]) := by unfold appO; rw [if_pos (by rw [size_eq]; exact h)]; rfl
theorem cat_ok {α : Type} {xs ys : List α} (h : xs.length + ys.length ≤ 16777216) : ofO (catL xs ys) = .ok (xs ++ ys) := by unfold catL; rw [if_pos (by rw [size_eq]; exact h)]; rfl
theorem ran_ok {n : Int} (h : n < 4611686018427387904) (h0 : -4611686018427387904 ≤ n := by omega) : ofO (ranO 0 n) = .ok (iran 0 n) := by unfold ranO; rw [if_pos ⟨by decide, by decide, h0, h⟩]; rfl
theorem ran2_ok {l n : Int} (h1 : -4611686018427387904 ≤ l) (h2 : l < 4611686018427387904) (h3 : -4611686018427387904 ≤ n) (h4 : n < 4611686018427387904) : ofO (ranO l n) = .ok (iran l n) := by unfold ranO; rw [if_pos ⟨h1, h2, h3, h4⟩]; rfl
theorem iran_len {l n : Int} : (iran l n).length = (n - l).toNat := by simp [iran]
theorem iran_get {l n : Int} {i : Nat} {x : Int} (h : (iran l n)[i]? = some x) : x = l + (i : Int) ∧ l ≤ x ∧ x < n := by
  have hi : i < (iran l n).length := (List.getElem?_eq_some_iff.mp h).1
  rw [iran_len] at hi
  simp only [iran, List.getElem?_map, List.getElem?_range hi, Option.map_some, Option.some.injEq] at h
  omega
theorem iran_mem {l n x : Int} (h : x ∈ iran l n) : l ≤ x ∧ x < n := by
  obtain ⟨i, hi⟩ := List.mem_iff_getElem?.mp h
  exact ⟨(iran_get hi).2.1, (iran_get hi).2.2⟩
theorem at_some {α : Type} {xs : List α} {i : Int} (h0 : 0 ≤ i) (h : i < (xs.length : Int)) : ∃ x, xs[i.toNat]? = some x ∧ atI xs i = some x := by
  have hi : i.toNat < xs.length := by omega
  refine ⟨xs[i.toNat], List.getElem?_eq_getElem hi, ?_⟩
  have := atI_nat (xs := xs) (j := i.toNat) (v := xs[i.toNat]) (List.getElem?_eq_getElem hi)
  rw [show ((i.toNat : Nat) : Int) = i by omega] at this
  exact this
theorem sat_at {α : Type} {xs : List α} {i : Int} {P : α → Prop} (h0 : 0 ≤ i) (h : i < (xs.length : Int)) (hP : ∀ x ∈ xs, P x) : Sat (ofO (atI xs i)) P := by
  obtain ⟨x, h1, h2⟩ := at_some h0 h
  rw [h2]
  exact ⟨x, rfl, hP x (List.mem_iff_getElem?.mpr ⟨_, h1⟩)⟩
theorem sat_atI {α : Type} {xs : List α} {i : Int} (h0 : 0 ≤ i) (h : i < (xs.length : Int)) : Sat (ofO (atI xs i)) fun x => xs[i.toNat]? = some x := by
  obtain ⟨x, h1, h2⟩ := at_some h0 h
  rw [h2]
  exact ⟨x, rfl, h1⟩
/-! ### texts -/
theorem len_mk (l : List Nat) : (⟨l.toArray⟩ : Str).length = l.length := by show l.toArray.size = _; simp
theorem slen (s : Str) : s.length = s.cps.toList.length := by show s.cps.size = _; simp
theorem sat_atS {x : Str} {i : Int} (h0 : 0 ≤ i) (h : i < (x.length : Int)) (hl : x.length ≤ 16777216) : Sat (ofO (atS x i)) fun y => ∃ c, x.cps.toList[i.toNat]? = some c ∧ y = ⟨#[c]⟩ := by
  unfold atS
  rw [if_pos (by rw [size_eq]; exact hl)]
  obtain ⟨c, h1, h2⟩ := at_some (xs := x.cps.toList) h0 (by rw [← slen]; exact h)
  rw [h2]
  exact ⟨⟨#[c]⟩, rfl, c, h1, rfl⟩
theorem catS_ok {x y : Str} (h : x.length + y.length ≤ 16777216) : ofO (catO x y) = .ok (x ++ y) := by unfold catO; rw [if_pos (by rw [size_eq]; exact h)]; rfl
theorem len_app (x y : Str) : (x ++ y).length = x.length + y.length := Str.length_append x y
theorem slS_ok {x : Str} {l h : Option Int} (hl : x.length ≤ 16777216) : ofO (slS x l h) = .ok (cutS x l h) := by unfold slS; rw [if_pos (by rw [size_eq]; exact hl)]; rfl
theorem cutS_len (x : Str) (l h : Option Int) : (cutS x l h).length ≤ x.length := by
  unfold cutS
  rw [len_mk, List.length_take, List.length_drop, ← slen]
  omega
theorem lenS_ok {x : Str} (hl : x.length ≤ 16777216) : ofO (lenS x) = .ok (x.length : Int) := by unfold lenS; rw [if_pos (by rw [size_eq]; exact hl)]; rfl
theorem join_ok {a : Str} {ys : List Str} (h : (ys.map (·.length)).sum + ys.length * a.length ≤ 16777216) : ofO (joinO a ys) = .ok (Txt.join a ys) := by unfold joinO; rw [if_pos h]; rfl
theorem sum_le {xs : List Nat} {b : Nat} (h : ∀ x ∈ xs, x ≤ b) : xs.sum ≤ xs.length * b := by
  induction xs with
  | nil => simp
  | cons x xs ih =>
    rw [List.sum_cons, List.length_cons, Nat.add_mul]
    have := h x (List.mem_cons_self ..)
    have := ih fun y hy => h y (List.mem_cons_of_mem _ hy)
    omega
end Gm
set_option Elab.async false
set_option linter.all false
set_option maxRecDepth 100000
set_option maxHeartbeats 4000000
namespace Lw
open PySem PySem.Spec L2 Gm
def l_row_b1 (a_cell : Int) (s9 : ((List Int) × Int)) (k10 : Int) : Mx ((List Int) × Int) :=
  ((ofO (powO (10 : Int) (18 : Int))) >>= fun v11 => .ok (decide (v11 ≤ (if a_cell < 0 then -a_cell else a_cell)))) >>= fun v25 => if v25 then (ofO (modO s9.2 (1009 : Int))) >>= fun v14 => ofO (appO s9.1 v14) >>= fun row_here_12 => (ofO (divO s9.2 (1009 : Int))) >>= fun rest_13 => .ok (row_here_12, rest_13) else (((ofO (mulO s9.2 (48271 : Int))) >>= fun v15 => (ofO (mulO (k10 + (1 : Int)) (69621 : Int))) >>= fun v16 => .ok (v15 + v16)) >>= fun v17 => ofO (modO v17 (2147483647 : Int))) >>= fun mixed_18 => (((ofO (mulO mixed_18 (16807 : Int))) >>= fun v19 => (ofO (mulO (271 : Int) (k10 + (3 : Int)))) >>= fun v20 => .ok (v19 + v20)) >>= fun v21 => ofO (modO v21 (2147483629 : Int))) >>= fun mixed_22 => (ofO (modO mixed_22 (1009 : Int))) >>= fun v24 => ofO (appO s9.1 v24) >>= fun row_here_23 => .ok (row_here_23, s9.2)
def l_row (a_cell : Int) (a_many : Int) : Mx (List Int) :=
  (.ok ([] : List Int)) >>= fun row_here_7 => (.ok (if a_cell < 0 then -a_cell else a_cell)) >>= fun rest_8 => ((ofO (ranO 0 a_many)) >>= fun v27 => loopS v27 (row_here_7, rest_8) (l_row_b1 a_cell)) >>= fun s26 => .ok s26.1
def l_numbers_b2 (s28 : (List Int)) (number29 : Int) : Mx (List Int) :=
  ofO (appO s28 number29) >>= fun numbers_here_30 => .ok numbers_here_30
def l_numbers_b1 (each_3 : Int) (s5 : (List Int)) (cell6 : Int) : Mx (List Int) :=
  ((l_row cell6 each_3) >>= fun v32 => loopS v32 s5 l_numbers_b2) >>= fun s31 => .ok s31
def l_numbers_b3 (s34 : (List Int)) : Mx (List Int) :=
  ofO (appO s34 (0 : Int)) >>= fun numbers_here_35 => .ok numbers_here_35
def l_numbers_b3c (a_many : Int) (s34 : (List Int)) : Mx Bool :=
  .ok (decide ((s34.length : Int) < a_many))
def l_numbers (a_script : (List Int)) (a_many : Int) : Mx (List Int) :=
  (.ok (cut a_script none (some (63 : Int)))) >>= fun cells_1 => ((ofO (divO a_many (if (cells_1.length : Int) > (1 : Int) then (cells_1.length : Int) else (1 : Int)))) >>= fun v2 => .ok ((1 : Int) + v2)) >>= fun each_3 => (.ok ([] : List Int)) >>= fun numbers_here_4 => (loopS cells_1 numbers_here_4 (l_numbers_b1 each_3)) >>= fun s33 => whileS fuel s33 (l_numbers_b3c a_many) l_numbers_b3 >>= fun s36 => .ok (cut s36 none (some a_many))
def l_names (a_number : Int) (a_other : Int) (a_many : Int) : Mx (List Str) :=
  (.ok ("abcdefghijklmnopqrstuvwxyz0123456789" : Str)) >>= fun chars_44 => ((ofO (modO a_number (4 : Int))) >>= fun v45 => ofO (atI ((0 : Int) :: ((1 : Int) :: ((3 : Int) :: ((11 : Int) :: ([] : List Int))))) v45)) >>= fun size_46 => (((ofO (ranO 0 size_46)) >>= fun v54 => compO v54 (compF (fun k47 => .ok true) (fun k47 => (((((ofO (mulO (7 : Int) k47)) >>= fun v48 => ofO (mulO v48 k47)) >>= fun v49 => .ok (a_other + v49)) >>= fun v50 => (ofO (mulO a_number k47)) >>= fun v51 => .ok (v50 + v51)) >>= fun v52 => ofO (modO v52 (36 : Int))) >>= fun v53 => ofO (atS chars_44 v53)))) >>= fun v55 => ofO (joinO ("" : Str) v55)) >>= fun rest_56 => (((ofO (divO a_number (4 : Int))) >>= fun v57 => .ok (v57 + a_other)) >>= fun v58 => ofO (modO v58 (size_46 + (1 : Int)))) >>= fun place_59 => (ofO (ranO 0 a_many)) >>= fun v68 => compO v68 (compF (fun k60 => .ok true) (fun k60 => ((ofO (slS rest_56 none (some place_59))) >>= fun v64 => ((((ofO (mulO (5 : Int) k60)) >>= fun v61 => .ok (a_other + v61)) >>= fun v62 => ofO (modO v62 (36 : Int))) >>= fun v63 => ofO (atS chars_44 v63)) >>= fun v65 => ofO (catO v64 v65)) >>= fun v66 => (ofO (slS rest_56 (some place_59) none)) >>= fun v67 => ofO (catO v66 v67)))
def g_switching_of (a_play : (List (Str × Str))) : Mx (List Str) :=
  compO a_play (compF (fun p97 => .ok (decide (p97.1 = ("hand" : Str)))) (fun p97 => .ok p97.2))
def l_are_strings (a_actual : (List Str)) (a_expected : (List Str)) : Mx Bool :=
  (if (!true) then .ok true else .ok (!decide (a_actual = a_expected))) >>= fun v101 => if v101 then .ok false else (compO a_actual (compF (fun word99 => .ok true) (fun word99 => .ok true))) >>= fun v100 => .ok (v100.all id)
def l_law_b1 (numbers_here_37 : (List Int)) (s42 : ((List (Str × Str)) × (List Str))) (k43 : Int) : Mx ((List (Str × Str)) × (List Str)) :=
  (((((ofO (mulO (2 : Int) k43)) >>= fun v69 => .ok ((2 : Int) + v69)) >>= fun v70 => ofO (atI numbers_here_37 v70)) >>= fun v74 => ((((ofO (mulO (2 : Int) k43)) >>= fun v71 => .ok ((3 : Int) + v71)) >>= fun v72 => ofO (atI numbers_here_37 v72)) >>= fun v73 => .ok (v73, (2 : Int), ())) >>= fun v75 => .ok (v74, v75)) >>= fun v76 => l_names v76.1 v76.2.1 v76.2.2.1) >>= fun names_here_77 => ((((((ofO (mulO (2 : Int) k43)) >>= fun v78 => .ok ((3 : Int) + v78)) >>= fun v79 => ofO (atI numbers_here_37 v79)) >>= fun v80 => ofO (divO v80 (3 : Int))) >>= fun v81 => ofO (modO v81 (2 : Int))) >>= fun v82 => ofO (atI names_here_77 v82)) >>= fun name_83 => ((((((ofO (mulO (2 : Int) k43)) >>= fun v84 => .ok ((2 : Int) + v84)) >>= fun v85 => ofO (atI numbers_here_37 v85)) >>= fun v86 => ofO (divO v86 (5 : Int))) >>= fun v87 => ofO (modO v87 (2 : Int))) >>= fun v88 => .ok (decide (v88 = (0 : Int)))) >>= fun v92 => if v92 then ofO (appO s42.1 (("hand" : Str), name_83)) >>= fun play_89 => ofO (appO s42.2 name_83) >>= fun expected_90 => .ok (play_89, expected_90) else ofO (appO s42.1 (("relay" : Str), name_83)) >>= fun play_91 => .ok (play_91, s42.2)
def l_law_b2 (s93 : ((List (Str × Str)) × (List Str))) (handed_94 : (List (Str × Str))) (s95 : Unit) (turn96 : Int) : Mx (Lp Unit Bool) :=
  (g_switching_of handed_94) >>= fun actual_98 => (((l_are_strings actual_98 s93.2) >>= fun v102 => .ok (!v102)) >>= fun v103 => if v103 then .ok true else .ok (!decide (handed_94 = s93.1))) >>= fun v107 => if v107 then .ok ((fun y104 => (.out y104)) false) else ofO (appO actual_98 ("x" : Str)) >>= fun actual_105 => .ok (.go ())
def l_law (a_script : (List Int)) : Mx Bool :=
  (l_numbers a_script (130 : Int)) >>= fun numbers_here_37 => (.ok ([] : List (Str × Str))) >>= fun play_38 => (.ok ([] : List Str)) >>= fun expected_39 => ((((ofO (atI numbers_here_37 (0 : Int))) >>= fun v40 => ofO (modO v40 (41 : Int))) >>= fun v41 => ofO (ranO 0 v41)) >>= fun v111 => loopS v111 (play_38, expected_39) (l_law_b1 numbers_here_37)) >>= fun s93 => (.ok s93.1) >>= fun handed_94 => ((ofO (ranO 0 (2 : Int))) >>= fun v109 => loopF v109 () (l_law_b2 s93 handed_94)) >>= fwk (fun s108 => .ok true) (fun y110 => y110)
end Lw
set_option Elab.async false
set_option linter.all false
set_option maxRecDepth 100000
set_option maxHeartbeats 4000000
namespace Lw
open PySem PySem.Spec L2 Gm
abbrev topS (i : Nat) : Stmt := PySem.Challenge.pw_leverhouse_k22_switching_of_a_play.main.body.getD i (.Pass ⟨0, 0, 0, 0⟩)
structure Fs where
  l_rowD : FuncData
  l_numbersD : FuncData
  l_namesD : FuncData
  g_switching_ofD : FuncData
  l_are_stringsD : FuncData
  l_lawD : FuncData
abbrev s_l_row : Stmt := topS 3
abbrev N_l_row : List Str := ["_law_cell", "_law_many", "_law_row_here", "_law_rest", "_law_k", "_law_mixed"]
theorem sc_l_row : FnScope N_l_row ["_law_cell", "_law_many"] (defScope s_l_row) := ⟨rfl, rfl, rfl, by decide +kernel, rfl, by decide +kernel, by decide +kernel⟩
abbrev s_l_numbers : Stmt := topS 4
abbrev N_l_numbers : List Str := ["_law_script", "_law_many", "_law_cells", "_law_each", "_law_numbers_here", "_law_cell", "_law_number"]
theorem sc_l_numbers : FnScope N_l_numbers ["_law_script", "_law_many"] (defScope s_l_numbers) := ⟨rfl, rfl, rfl, by decide +kernel, rfl, by decide +kernel, by decide +kernel⟩
abbrev s_l_names : Stmt := topS 5
abbrev N_l_names : List Str := ["_law_number", "_law_other", "_law_many", "_law_chars", "_law_size", "_law_rest", "_law_place", "_law_k"]
theorem sc_l_names : FnScope N_l_names ["_law_number", "_law_other", "_law_many"] (defScope s_l_names) := ⟨rfl, rfl, rfl, by decide +kernel, rfl, by decide +kernel, by decide +kernel⟩
abbrev s_g_switching_of : Stmt := topS 1
abbrev N_g_switching_of : List Str := ["play", "kind", "name"]
theorem sc_g_switching_of : FnScope N_g_switching_of ["play"] (defScope s_g_switching_of) := ⟨rfl, rfl, rfl, by decide +kernel, rfl, by decide +kernel, by decide +kernel⟩
abbrev s_l_are_strings : Stmt := topS 6
abbrev N_l_are_strings : List Str := ["_law_actual", "_law_expected", "_law_word"]
theorem sc_l_are_strings : FnScope N_l_are_strings ["_law_actual", "_law_expected"] (defScope s_l_are_strings) := ⟨rfl, rfl, rfl, by decide +kernel, rfl, by decide +kernel, by decide +kernel⟩
abbrev s_l_law : Stmt := topS 7
abbrev N_l_law : List Str := ["_law_script", "_law_numbers_here", "_law_play", "_law_expected", "_law_k", "_law_names_here", "_law_name", "_law_handed", "_law_turn", "_law_actual"]
theorem sc_l_law : FnScope N_l_law ["_law_script"] (defScope s_l_law) := ⟨rfl, rfl, rfl, by decide +kernel, rfl, by decide +kernel, by decide +kernel⟩
structure Tx (K : PySem.W.Frag) (mg : Str → Option Value) (a : Fs) : Prop where
  l_row : FunD K "_law_row" "_law_row" (defArgs s_l_row) (defBody s_l_row) (defScope s_l_row) [] [] (He.fAd K ("_law_row", none)) a.l_rowD
  l_row_m : mg "_law_row" = some (.ref (He.fAd K ("_law_row", none)))
  l_row_b : Binds K a.l_rowD ["_law_cell", "_law_many"] []
  l_numbers : FunD K "_law_numbers" "_law_numbers" (defArgs s_l_numbers) (defBody s_l_numbers) (defScope s_l_numbers) [] [] (He.fAd K ("_law_numbers", none)) a.l_numbersD
  l_numbers_m : mg "_law_numbers" = some (.ref (He.fAd K ("_law_numbers", none)))
  l_numbers_b : Binds K a.l_numbersD ["_law_script", "_law_many"] []
  l_names : FunD K "_law_names" "_law_names" (defArgs s_l_names) (defBody s_l_names) (defScope s_l_names) [] [] (He.fAd K ("_law_names", none)) a.l_namesD
  l_names_m : mg "_law_names" = some (.ref (He.fAd K ("_law_names", none)))
  l_names_b : Binds K a.l_namesD ["_law_number", "_law_other", "_law_many"] []
  g_switching_of : FunD K "switching_of" "switching_of" (defArgs s_g_switching_of) (defBody s_g_switching_of) (defScope s_g_switching_of) [] [] (He.fAd K ("switching_of", none)) a.g_switching_ofD
  g_switching_of_m : mg "switching_of" = some (.ref (He.fAd K ("switching_of", none)))
  g_switching_of_b : Binds K a.g_switching_ofD ["play"] []
  l_are_strings : FunD K "_law_are_strings" "_law_are_strings" (defArgs s_l_are_strings) (defBody s_l_are_strings) (defScope s_l_are_strings) [] [] (He.fAd K ("_law_are_strings", none)) a.l_are_stringsD
  l_are_strings_m : mg "_law_are_strings" = some (.ref (He.fAd K ("_law_are_strings", none)))
  l_are_strings_b : Binds K a.l_are_stringsD ["_law_actual", "_law_expected"] []
  l_law : FunD K "law" "law" (defArgs s_l_law) (defBody s_l_law) (defScope s_l_law) [] [] (He.fAd K ("law", none)) a.l_lawD
  l_law_m : mg "law" = some (.ref (He.fAd K ("law", none)))
  l_law_b : Binds K a.l_lawD ["_law_script"] []
  b_abs : mg "abs" = none
  b_all : mg "all" = none
  b_int : mg "int" = none
  b_isinstance : mg "isinstance" = none
  b_len : mg "len" = none
  b_list : mg "list" = none
  b_max : mg "max" = none
  b_range : mg "range" = none
  b_str : mg "str" = none
variable {P : Program} {w : World} {K : PySem.W.Frag} {mg : Str → Option Value} {base : Heap} {a : Fs}
set_option maxHeartbeats 400000 in
theorem ok_l_row (T : Tx K mg a) : FnOk P w K mg base (L2.CX P w) 1 (He.fAd K ("_law_row", none)) a.l_rowD ["_law_cell", "_law_many"] (spF K mg (.pr .int (.pr .int .nl)) (.o (.l (.d .int))) fun x => l_row x.1 x.2.1) := by
  refine fn_bodyD T.l_row sc_l_row rfl fun cdv A outer s H E hr tk po x => ?_
  have hN := sc_l_row.nd
  have hu := hr.units
  exact bs_cast (b_set (r := .o (.l (.d .int))) 2 (e_lst (n := 0) (hl := by decide) (el_nil (t := .int))) (.all rfl) (fun row_here_7 => b_set (r := .d .int) 3 (e_abs (hs := rfl) rfl T.b_abs (e_intI (hs := rfl) rfl T.b_int (e_var 0 rfl (vL 0 rfl rfl rfl)))) (.all rfl) (fun rest_8 => bs_seq (G := fun (s : ((List Int) × Int)) => [.d .int x.1, .d .int x.2.1, .o (.l (.d .int)) s.1, .d .int s.2, .no, .no]) (s1_for (hix := fun _ => all_ix rfl) (hs := fun _ => rfl) (t := .int) (G := fun (s : ((List Int) × Int)) => [.d .int x.1, .d .int x.2.1, .o (.l (.d .int)) s.1, .d .int s.2, .no, .no]) (s0 := (row_here_7, rest_8)) (f := (l_row_b1 x.1)) po rfl (is_ran (r_ran1 (hs := rfl) rfl T.b_range (e_var 1 rfl (vL 1 rfl rfl rfl)))) (g_nm 4 (pg_name hN rfl (.inl rfl) (.inr rfl))) (fun s9 k10 => bs_cast (bs_one (s1_if (t_c2 (hm := mark_of _ rfl) (c_ge (e_abs (hs := rfl) rfl T.b_abs (e_intI (hs := rfl) rfl T.b_int (e_var 0 rfl (vL 0 rfl rfl rfl)))) (e_pow e_int e_int))) (bs_app 2 (t := .int) (hbase := rfl) (hfew := rfl) (hline := rfl) (hs := rfl) (hpl := rfl) rfl (vL 2 rfl rfl rfl) (e_mod (e_intI (hs := rfl) rfl T.b_int (e_var 3 rfl (vL 3 rfl rfl rfl))) e_int) (.all rfl) (fun row_here_12 => b_set (r := .d .int) 3 (e_div (e_var 3 rfl (vL 3 rfl rfl rfl)) e_int) (.all rfl) (fun rest_13 => bs_nil (b := (row_here_12, rest_13)) rfl (.same (.same (.same (.same (.no (.same .nil))))))) hN rfl (.inl rfl) (.inr rfl) rfl rfl rfl)) (b_set (r := .d .int) 5 (e_mod (e_intI (hs := rfl) rfl T.b_int (e_add (e_mul (e_var 3 rfl (vL 3 rfl rfl rfl)) e_int) (e_mul (e_add (e_var 4 rfl (vL 4 rfl rfl rfl)) e_int) e_int))) e_int) (.all rfl) (fun mixed_18 => b_set (r := .d .int) 5 (e_mod (e_intI (hs := rfl) rfl T.b_int (e_add (e_mul (e_var 5 rfl (vL 5 rfl rfl rfl)) e_int) (e_mul e_int (e_add (e_var 4 rfl (vL 4 rfl rfl rfl)) e_int)))) e_int) (.all rfl) (fun mixed_22 => bs_app 2 (t := .int) (hbase := rfl) (hfew := rfl) (hline := rfl) (hs := rfl) (hpl := rfl) rfl (vL 2 rfl rfl rfl) (e_mod (e_intI (hs := rfl) rfl T.b_int (e_var 5 rfl (vL 5 rfl rfl rfl))) e_int) (.all rfl) (fun row_here_23 => bs_nil (b := (row_here_23, s9.2)) rfl (.same (.same (.same (.same (.no (.no .nil)))))))) hN rfl (.inl rfl) (.inr rfl) rfl rfl rfl) hN rfl (.inl rfl) (.inr rfl) rfl rfl rfl))) (by simp only [okb, l_row_b1])) (.same (.same (.same (.same (.same (.same .nil))))))) (fun s26 => bs_retO 2 (b := s26.1) (hI := rfl) rfl (vL 2 rfl rfl rfl))) hN rfl (.inl rfl) (.inr rfl) rfl rfl rfl) hN rfl (.inl rfl) (.inr rfl) rfl rfl rfl) (by simp only [okb, l_row])
set_option maxHeartbeats 400000 in
theorem ok_l_numbers (T : Tx K mg a) : FnOk P w K mg base (L2.CX P w) 2 (He.fAd K ("_law_numbers", none)) a.l_numbersD ["_law_script", "_law_many"] (spF K mg (.pr .scr (.pr .int .nl)) (.o (.l (.d .int))) fun x => l_numbers x.1 x.2.1) := by
  refine fn_bodyD T.l_numbers sc_l_numbers rfl fun cdv A outer s H E hr tk po x => ?_
  have hN := sc_l_numbers.nd
  have hu := hr.units
  exact bs_cast (b_setF (o := .l (.d .int)) 2 (e_slScr (e_var 0 rfl (vL 0 rfl rfl rfl)) p_none (p_some e_int)) (.all rfl) (fun cells_1 => b_set (r := .d .int) 3 (e_add e_int (e_div (e_var 1 rfl (vL 1 rfl rfl rfl)) (e_max2 (hs := rfl) (hs2 := rfl) (hp := rfl) rfl rfl T.b_max e_int (e_lenL (hs := rfl) rfl T.b_len (e_var 2 rfl (vL 2 rfl rfl rfl)))))) (.all rfl) (fun each_3 => b_set (r := .o (.l (.d .int))) 4 (e_lst (n := 0) (hl := by decide) (el_nil (t := .int))) (.all rfl) (fun numbers_here_4 => bs_seq (G := fun (s : (List Int)) => [.d .scr x.1, .d .int x.2.1, .d (.list .int) cells_1, .d .int each_3, .o (.l (.d .int)) s, .no, .no]) (s1_for (hix := fun _ => all_ix rfl) (hs := fun _ => rfl) (t := .int) (G := fun (s : (List Int)) => [.d .scr x.1, .d .int x.2.1, .d (.list .int) cells_1, .d .int each_3, .o (.l (.d .int)) s, .no, .no]) (s0 := numbers_here_4) (f := (l_numbers_b1 each_3)) po rfl (is_hid (i_list (e_var 2 rfl (vL 2 rfl rfl rfl)))) (g_nm 5 (pg_name hN rfl (.inl rfl) (.inr rfl))) (fun s5 cell6 => bs_cast (bs_seq (G := fun (s : (List Int)) => [.d .scr x.1, .d .int x.2.1, .d (.list .int) cells_1, .d .int each_3, .o (.l (.d .int)) s, .d .int cell6, .no]) (s1_for (hix := fun _ => all_ix rfl) (hs := fun _ => rfl) (t := .int) (G := fun (s : (List Int)) => [.d .scr x.1, .d .int x.2.1, .d (.list .int) cells_1, .d .int each_3, .o (.l (.d .int)) s, .d .int cell6, .no]) (s0 := s5) (f := l_numbers_b2) po rfl (is_hid (i_list (e_frz (o := .l (.d .int)) (e_call (hdb := rfl) (he := rfl) (hpl := rfl) (ok_l_row T) (hr.mono (by decide)) rfl T.l_row_m T.l_row.kp T.l_row_b tk (ea_cons (hs := rfl) (e_var 5 rfl (vL 5 rfl rfl rfl)) (ea_cons (hs := rfl) (e_var 3 rfl (vL 3 rfl rfl rfl)) ea_nil)))))) (g_nm 6 (pg_name hN rfl (.inl rfl) (.inr rfl))) (fun s28 number29 => bs_cast (bs_app 4 (t := .int) (hbase := rfl) (hfew := rfl) (hline := rfl) (hs := rfl) (hpl := rfl) rfl (vL 4 rfl rfl rfl) (e_var 6 rfl (vL 6 rfl rfl rfl)) (.all rfl) (fun numbers_here_30 => bs_nil (b := numbers_here_30) rfl (.same (.same (.same (.same (.same (.same (.no .nil))))))))) (by simp only [okb, l_numbers_b2])) (.same (.same (.same (.same (.same (.same (.same .nil)))))))) (fun s31 => bs_nil (b := s31) rfl (.same (.same (.same (.same (.same (.no (.same .nil))))))))) (by simp only [okb, l_numbers_b1])) (.same (.same (.same (.same (.same (.same (.same .nil)))))))) (fun s33 => bs_seq (G := fun (s : (List Int)) => [.d .scr x.1, .d .int x.2.1, .d (.list .int) cells_1, .d .int each_3, .o (.l (.d .int)) s, .no, .no]) (s1_while (G := fun (s : (List Int)) => [.d .scr x.1, .d .int x.2.1, .d (.list .int) cells_1, .d .int each_3, .o (.l (.d .int)) s, .no, .no]) (s0 := s33) (mc := (l_numbers_b3c x.2.1)) (f := l_numbers_b3) fuel po (fun s34 => t_cast (t_c2 (hm := mark_of _ rfl) (c_lt (e_lenL (hs := rfl) rfl T.b_len (e_own 4 (o := .l (.d .int)) rfl (vL 4 rfl rfl rfl))) (e_var 1 rfl (vL 1 rfl rfl rfl)))) (by simp only [okb, l_numbers_b3c])) (fun s34 => bs_cast (bs_app 4 (t := .int) (hbase := rfl) (hfew := rfl) (hline := rfl) (hs := rfl) (hpl := rfl) rfl (vL 4 rfl rfl rfl) e_int (.all rfl) (fun numbers_here_35 => bs_nil (b := numbers_here_35) rfl (.same (.same (.same (.same (.same (.same (.same .nil))))))))) (by simp only [okb, l_numbers_b3])) (.same (.same (.same (.same (.same (.same (.same .nil)))))))) (fun s36 => b_ret (e_slL (e_own 4 (o := .l (.d .int)) rfl (vL 4 rfl rfl rfl)) p_none (p_some (e_var 1 rfl (vL 1 rfl rfl rfl)))) (.all rfl)))) hN rfl (.inl rfl) (.inr rfl) rfl rfl rfl) hN rfl (.inl rfl) (.inr rfl) rfl rfl rfl) hN rfl (.inl rfl) (.inr rfl) rfl rfl rfl) (by simp only [okb, l_numbers])
set_option maxHeartbeats 400000 in
theorem ok_l_names (T : Tx K mg a) : FnOk P w K mg base (L2.CX P w) 1 (He.fAd K ("_law_names", none)) a.l_namesD ["_law_number", "_law_other", "_law_many"] (spF K mg (.pr .int (.pr .int (.pr .int .nl))) (.o (.l (.d .str))) fun x => l_names x.1 x.2.1 x.2.2.1) := by
  refine fn_bodyD T.l_names sc_l_names rfl fun cdv A outer s H E hr tk po x => ?_
  have hN := sc_l_names.nd
  have hu := hr.units
  exact bs_cast (b_set (r := .d .str) 3 e_str (.all rfl) (fun chars_44 => b_set (r := .d .int) 4 (e_ixL (hs := fun _ _ => rfl) (e_frz (o := .l (.d .int)) (e_lst (n := 4) (hl := by decide) (el_cons (hs := rfl) e_int (el_cons (hs := rfl) e_int (el_cons (hs := rfl) e_int (el_cons (hs := rfl) e_int (el_nil (t := .int)))))))) (e_mod (e_intI (hs := rfl) rfl T.b_int (e_var 0 rfl (vC 0 rfl rfl rfl))) e_int)) (.all rfl) (fun size_46 => b_set (r := .d .str) 5 (e_join (hs := rfl) (hbase := rfl) (hline := rfl) e_str (e_frz (o := .l (.d .str)) (e_lc (hs := fun _ => rfl) (his := by decide) rfl hN (own := [("_law_k", 7)]) (blk_by N_l_names (defScope s_l_names) (by decide +kernel)) (i_ran1 (hs := rfl) rfl T.b_range (e_var 4 rfl (vL 4 rfl rfl rfl))) (fun _ _ _ _ _ => (g_nm 7 (pg_name hN rfl (.inl rfl) (.inr rfl)))) (fun k47 _ _ _ _ _ => ts_nil) (fun k47 _ _ _ _ _ => (e_ixS (hs := fun _ _ => rfl) (e_var 3 rfl (vC 3 rfl rfl rfl)) (e_mod (e_intI (hs := rfl) rfl T.b_int (e_add (e_add (e_var 1 rfl (vC 1 rfl rfl rfl)) (e_mul (e_mul e_int (e_var 7 rfl (vL 7 rfl rfl rfl))) (e_var 7 rfl (vL 7 rfl rfl rfl)))) (e_mul (e_var 0 rfl (vC 0 rfl rfl rfl)) (e_var 7 rfl (vL 7 rfl rfl rfl))))) e_int)))))) (.all rfl) (fun rest_56 => b_set (r := .d .int) 6 (e_mod (e_intI (hs := rfl) rfl T.b_int (e_add (e_div (e_var 0 rfl (vC 0 rfl rfl rfl)) e_int) (e_var 1 rfl (vC 1 rfl rfl rfl)))) (e_add (e_var 4 rfl (vL 4 rfl rfl rfl)) e_int)) (.all rfl) (fun place_59 => b_ret (e_lc (hs := fun _ => rfl) (his := by decide) rfl hN (own := [("_law_k", 7)]) (blk_by N_l_names (defScope s_l_names) (by decide +kernel)) (i_ran1 (hs := rfl) rfl T.b_range (e_var 2 rfl (vL 2 rfl rfl rfl))) (fun _ _ _ _ _ => (g_nm 7 (pg_name hN rfl (.inl rfl) (.inr rfl)))) (fun k60 _ _ _ _ _ => ts_nil) (fun k60 _ _ _ _ _ => (e_cat (e_cat (e_slS (e_var 5 rfl (vC 5 rfl rfl rfl)) p_none (p_some (e_var 6 rfl (vC 6 rfl rfl rfl)))) (e_ixS (hs := fun _ _ => rfl) (e_var 3 rfl (vC 3 rfl rfl rfl)) (e_mod (e_intI (hs := rfl) rfl T.b_int (e_add (e_var 1 rfl (vC 1 rfl rfl rfl)) (e_mul e_int (e_var 7 rfl (vL 7 rfl rfl rfl))))) e_int))) (e_slS (e_var 5 rfl (vC 5 rfl rfl rfl)) (p_some (e_var 6 rfl (vC 6 rfl rfl rfl))) p_none)))) (.all rfl)) hN rfl (.inr rfl) (.inl rfl) rfl rfl rfl) hN rfl (.inr rfl) (.inl rfl) rfl rfl rfl) hN rfl (.inl rfl) (.inr rfl) rfl rfl rfl) hN rfl (.inr rfl) (.inl rfl) rfl rfl rfl) (by simp only [okb, l_names])
set_option maxHeartbeats 400000 in
theorem ok_g_switching_of (T : Tx K mg a) : FnOk P w K mg base (L2.CX P w) 1 (He.fAd K ("switching_of", none)) a.g_switching_ofD ["play"] (spF K mg (.pr (.list (.tup (.pr .str .str))) .nl) (.o (.l (.d .str))) fun x => g_switching_of x.1) := by
  refine fn_bodyD T.g_switching_of sc_g_switching_of rfl fun cdv A outer s H E hr tk po x => ?_
  have hN := sc_g_switching_of.nd
  have hu := hr.units
  exact bs_cast (b_ret (e_lc (hs := fun _ => rfl) (his := by decide) rfl hN (own := [("kind", 1), ("name", 2)]) (blk_by N_g_switching_of (defScope s_g_switching_of) (by decide +kernel)) (i_list (e_var 0 rfl (vL 0 rfl rfl rfl))) (fun _ _ _ _ _ => (g_tup (har := rfl) (hn := rfl) (hst := rfl) rfl (gs_cons (hs := rfl) (g_nm 1 (pg_name hN rfl (.inl rfl) (.inr rfl))) (gs_one (ht := rfl) (hs := rfl) (g_nm 2 (pg_name hN rfl (.inl rfl) (.inr rfl))))))) (fun p97 _ _ _ _ _ => (ts_one (t_c2 (hm := mark_of _ rfl) (c_eq (t := .str) (ht := rfl) (hd := by decide) hu (e_var 1 rfl (vL 1 rfl rfl rfl)) e_str)))) (fun p97 _ _ _ _ _ => (e_var 2 rfl (vL 2 rfl rfl rfl)))) (.all rfl)) (by simp only [okb, g_switching_of])
set_option maxHeartbeats 400000 in
theorem ok_l_are_strings (T : Tx K mg a) : FnOk P w K mg base (L2.CX P w) 1 (He.fAd K ("_law_are_strings", none)) a.l_are_stringsD ["_law_actual", "_law_expected"] (spF K mg (.pr (.list .str) (.pr (.list .str) .nl)) (.d .bool) fun x => l_are_strings x.1 x.2.1) := by
  refine fn_bodyD T.l_are_strings sc_l_are_strings rfl fun cdv A outer s H E hr tk po x => ?_
  have hN := sc_l_are_strings.nd
  have hu := hr.units
  exact bs_cast (bs_ifR (hI := fun _ => rfl) (t_w (w_or (t_not (t_of (he := fun _ => rfl) (e_isi (T := "list") (T' := "list") (res := true) (hs := rfl) rfl T.b_isinstance (e_var 0 rfl (vL 0 rfl rfl rfl)) rfl (n_ty rfl T.b_list (by decide +kernel) (by decide) rfl) rfl))) (w_or1 (t_c2 (hm := mark_of _ rfl) (c_ne (t := (.list .str)) (ht := rfl) (hd := by decide) hu (e_var 0 rfl (vL 0 rfl rfl rfl)) (e_var 1 rfl (vL 1 rfl rfl rfl))))))) (b_ret e_bool (.all rfl)) (b_ret (e_all (hs := rfl) rfl rfl T.b_all (e_frz (o := .l (.d .bool)) (e_lc (hs := fun _ => rfl) (his := by decide) rfl hN (own := [("_law_word", 2)]) (blk_by N_l_are_strings (defScope s_l_are_strings) (by decide +kernel)) (i_list (e_var 0 rfl (vL 0 rfl rfl rfl))) (fun _ _ _ _ _ => (g_nm 2 (pg_name hN rfl (.inl rfl) (.inr rfl)))) (fun word99 _ _ _ _ _ => ts_nil) (fun word99 _ _ _ _ _ => (e_isi (T := "str") (T' := "str") (res := true) (hs := rfl) rfl T.b_isinstance (e_var 2 rfl (vL 2 rfl rfl rfl)) rfl (n_ty rfl T.b_str (by decide +kernel) (by decide) rfl) rfl))))) (.all rfl))) (by simp only [okb, l_are_strings])
set_option maxHeartbeats 400000 in
theorem ok_l_law (T : Tx K mg a) : FnOk P w K mg base (L2.CX P w) 3 (He.fAd K ("law", none)) a.l_lawD ["_law_script"] (spF K mg (.pr .scr .nl) (.d .bool) fun x => l_law x.1) := by
  refine fn_bodyD T.l_law sc_l_law rfl fun cdv A outer s H E hr tk po x => ?_
  have hN := sc_l_law.nd
  have hu := hr.units
  exact bs_cast (b_setF (o := .l (.d .int)) 1 (e_call (hdb := rfl) (he := rfl) (hpl := rfl) (ok_l_numbers T) (hr.mono (by decide)) rfl T.l_numbers_m T.l_numbers.kp T.l_numbers_b tk (ea_cons (hs := rfl) (e_var 0 rfl (vL 0 rfl rfl rfl)) (ea_cons (hs := rfl) e_int ea_nil))) (.all rfl) (fun numbers_here_37 => b_set (r := .o (.l (.d (.tup (.pr .str .str))))) 2 (e_lst (n := 0) (hl := by decide) (el_nil (t := (.tup (.pr .str .str))))) (.all rfl) (fun play_38 => b_set (r := .o (.l (.d .str))) 3 (e_lst (n := 0) (hl := by decide) (el_nil (t := .str))) (.all rfl) (fun expected_39 => bs_seq (G := fun (s : ((List (Str × Str)) × (List Str))) => [.d .scr x.1, .d (.list .int) numbers_here_37, .o (.l (.d (.tup (.pr .str .str)))) s.1, .o (.l (.d .str)) s.2, .no, .no, .no, .no, .no, .no]) (s1_for (hix := fun _ => all_ix rfl) (hs := fun _ => rfl) (t := .int) (G := fun (s : ((List (Str × Str)) × (List Str))) => [.d .scr x.1, .d (.list .int) numbers_here_37, .o (.l (.d (.tup (.pr .str .str)))) s.1, .o (.l (.d .str)) s.2, .no, .no, .no, .no, .no, .no]) (s0 := (play_38, expected_39)) (f := (l_law_b1 numbers_here_37)) po rfl (is_ran (r_ran1 (hs := rfl) rfl T.b_range (e_mod (e_intI (hs := rfl) rfl T.b_int (e_ixL (hs := fun _ _ => rfl) (e_var 1 rfl (vL 1 rfl rfl rfl)) e_int)) e_int))) (g_nm 4 (pg_name hN rfl (.inl rfl) (.inr rfl))) (fun s42 k43 => bs_cast (b_setF (o := .l (.d .str)) 5 (e_call (hdb := rfl) (he := rfl) (hpl := rfl) (ok_l_names T) (hr.mono (by decide)) rfl T.l_names_m T.l_names.kp T.l_names_b tk (ea_cons (hs := rfl) (e_ixL (hs := fun _ _ => rfl) (e_var 1 rfl (vL 1 rfl rfl rfl)) (e_add e_int (e_mul e_int (e_var 4 rfl (vL 4 rfl rfl rfl))))) (ea_cons (hs := rfl) (e_ixL (hs := fun _ _ => rfl) (e_var 1 rfl (vL 1 rfl rfl rfl)) (e_add e_int (e_mul e_int (e_var 4 rfl (vL 4 rfl rfl rfl))))) (ea_cons (hs := rfl) e_int ea_nil)))) (.all rfl) (fun names_here_77 => b_set (r := .d .str) 6 (e_ixL (hs := fun _ _ => rfl) (e_var 5 rfl (vL 5 rfl rfl rfl)) (e_mod (e_intI (hs := rfl) rfl T.b_int (e_div (e_ixL (hs := fun _ _ => rfl) (e_var 1 rfl (vL 1 rfl rfl rfl)) (e_add e_int (e_mul e_int (e_var 4 rfl (vL 4 rfl rfl rfl))))) e_int)) e_int)) (.all rfl) (fun name_83 => bs_one (s1_if (t_c2 (hm := mark_of _ rfl) (c_eq (t := .int) (ht := rfl) (hd := by decide) hu (e_mod (e_intI (hs := rfl) rfl T.b_int (e_div (e_ixL (hs := fun _ _ => rfl) (e_var 1 rfl (vL 1 rfl rfl rfl)) (e_add e_int (e_mul e_int (e_var 4 rfl (vL 4 rfl rfl rfl))))) e_int)) e_int) e_int)) (bs_app 2 (t := (.tup (.pr .str .str))) (hbase := rfl) (hfew := rfl) (hline := rfl) (hs := rfl) (hpl := rfl) rfl (vL 2 rfl rfl rfl) (e_tup (hl := rfl) (ea_cons (hs := rfl) e_str (ea_one (hs := rfl) (e_var 6 rfl (vL 6 rfl rfl rfl))))) (.all rfl) (fun play_89 => bs_app 3 (t := .str) (hbase := rfl) (hfew := rfl) (hline := rfl) (hs := rfl) (hpl := rfl) rfl (vL 3 rfl rfl rfl) (e_var 6 rfl (vL 6 rfl rfl rfl)) (.all rfl) (fun expected_90 => bs_nil (b := (play_89, expected_90)) rfl (.same (.same (.same (.same (.no (.no (.no (.same (.same (.same .nil))))))))))))) (bs_app 2 (t := (.tup (.pr .str .str))) (hbase := rfl) (hfew := rfl) (hline := rfl) (hs := rfl) (hpl := rfl) rfl (vL 2 rfl rfl rfl) (e_tup (hl := rfl) (ea_cons (hs := rfl) e_str (ea_one (hs := rfl) (e_var 6 rfl (vL 6 rfl rfl rfl))))) (.all rfl) (fun play_91 => bs_nil (b := (play_91, s42.2)) rfl (.same (.same (.same (.same (.no (.no (.no (.same (.same (.same .nil)))))))))))))) hN rfl (.inl rfl) (.inr rfl) rfl rfl rfl) hN rfl (.inl rfl) (.inr rfl) rfl rfl rfl) (by simp only [okb, l_law_b1])) (.same (.same (.same (.same (.same (.same (.same (.same (.same (.same .nil))))))))))) (fun s93 => b_setF (o := .l (.d (.tup (.pr .str .str)))) 7 (e_listL (hs := rfl) rfl T.b_list (e_own 2 (o := .l (.d (.tup (.pr .str .str)))) rfl (vL 2 rfl rfl rfl))) (.all rfl) (fun handed_94 => bs_seqF (G := fun (s : Unit) => [.d .scr x.1, .d (.list .int) numbers_here_37, .o (.l (.d (.tup (.pr .str .str)))) s93.1, .o (.l (.d .str)) s93.2, .no, .no, .no, .d (.list (.tup (.pr .str .str))) handed_94, .no, .no]) (O := fun (y : Bool) => .rt (.d .bool) y) (j := fun y110 => y110) (hj := fun _ => rfl) (ho := fun _ => rfl) (s1_forF (hO := fun _ => rfl) (hix := fun _ => all_ix rfl) (hs := fun _ => rfl) (t := .int) (G := fun (s : Unit) => [.d .scr x.1, .d (.list .int) numbers_here_37, .o (.l (.d (.tup (.pr .str .str)))) s93.1, .o (.l (.d .str)) s93.2, .no, .no, .no, .d (.list (.tup (.pr .str .str))) handed_94, .no, .no]) (s0 := ()) (O := fun (y : Bool) => .rt (.d .bool) y) (f := (l_law_b2 s93 handed_94)) po rfl (is_ran (r_ran1 (hs := rfl) rfl T.b_range e_int)) (g_nm 8 (pg_name hN rfl (.inl rfl) (.inr rfl))) (fun s95 turn96 => bs_cast (b_set (r := .o (.l (.d .str))) 9 (e_call (hdb := rfl) (he := rfl) (hpl := rfl) (ok_g_switching_of T) (hr.mono (by decide)) rfl T.g_switching_of_m T.g_switching_of.kp T.g_switching_of_b tk (ea_cons (hs := rfl) (e_var 7 rfl (vL 7 rfl rfl rfl)) ea_nil)) (.all rfl) (fun actual_98 => bs_ifL (fun y104 => (.out y104)) (t_w (w_or (t_not (t_of (he := fun _ => rfl) (e_call (hdb := rfl) (he := rfl) (hpl := rfl) (ok_l_are_strings T) (hr.mono (by decide)) rfl T.l_are_strings_m T.l_are_strings.kp T.l_are_strings_b tk (ea_cons (hs := rfl) (e_own 9 (o := .l (.d .str)) rfl (vL 9 rfl rfl rfl)) (ea_cons (hs := rfl) (e_own 3 (o := .l (.d .str)) rfl (vL 3 rfl rfl rfl)) ea_nil))))) (w_or1 (t_c2 (hm := mark_of _ rfl) (c_ne (t := (.list (.tup (.pr .str .str)))) (ht := rfl) (hd := by decide) hu (e_var 7 rfl (vL 7 rfl rfl rfl)) (e_own 2 (o := .l (.d (.tup (.pr .str .str)))) rfl (vL 2 rfl rfl rfl))))))) (b_ret e_bool (.all rfl)) (bs_app 9 (t := .str) (hbase := rfl) (hfew := rfl) (hline := rfl) (hs := rfl) (hpl := rfl) rfl (vL 9 rfl rfl rfl) e_str (.all rfl) (fun actual_105 => bs_nil (b := (.go ())) rfl (.same (.same (.same (.same (.same (.same (.same (.same (.no (.no .nil)))))))))))) (fun _ => rfl) (fun _ => rfl)) hN rfl (.inl rfl) (.inr rfl) rfl rfl rfl) (by simp only [okb, l_law_b2])) (.same (.same (.same (.same (.same (.same (.same (.same (.same (.same .nil))))))))))) (fun s108 => b_ret e_bool (.all rfl))) hN rfl (.inl rfl) (.inr rfl) rfl rfl rfl)) hN rfl (.inl rfl) (.inr rfl) rfl rfl rfl) hN rfl (.inl rfl) (.inr rfl) rfl rfl rfl) hN rfl (.inl rfl) (.inr rfl) rfl rfl rfl) (by simp only [okb, l_law])
end Lw
set_option Elab.async false
set_option linter.all false
set_option maxRecDepth 100000
set_option maxHeartbeats 1000000
namespace Lw
open PySem Gm
open L2 hiding app_ok
theorem mem_app1 {xs : List Int} {y : Int} (h : ∀ x ∈ xs, 0 ≤ x ∧ x < 1009) (hy : 0 ≤ y ∧ y < 1009) : ∀ x ∈ xs ++ [y], 0 ≤ x ∧ x < 1009 := fun x hx => by
  rcases List.mem_append.mp hx with hx | hx
  · exact h x hx
  · rw [List.mem_singleton.mp hx]; exact hy
theorem sat_row {c n : Int} (h0 : 0 ≤ n) (h1 : n ≤ 100000) : Sat (l_row c n) (fun l => l.length = n.toNat ∧ ∀ x ∈ l, 0 ≤ x ∧ x < 1009) := by
  unfold l_row
  simp only [okb, Mx.assoc]
  rw [ran_ok (by omega), okb]
  refine Sat.bind (sat_loop (fun i s => s.1.length = i ∧ ∀ x ∈ s.1, 0 ≤ x ∧ x < 1009) ⟨rfl, by simp⟩ fun i s x hx hs => ?_) fun s hs => Sat.ok ⟨by rw [hs.1, iran_len]; omega, hs.2⟩
  obtain ⟨e, hx0, hx1⟩ := iran_get hx
  obtain ⟨hl, hm⟩ := hs
  unfold l_row_b1
  simp only [okb, Mx.assoc]
  rw [pow_ok (by decide) (by decide) (by decide), okb]
  refine Sat.ite (fun _ => ?_) (fun _ => ?_)
  · rw [mod_ok (by decide), okb, app_ok (by omega), okb, div_ok (by decide) (by decide), okb]
    exact Sat.ok ⟨by simp [hl], mem_app1 hm ⟨Int.emod_nonneg _ (by decide), Int.emod_lt_of_pos _ (by decide)⟩⟩
  · rw [mul_r (by decide) (by decide), okb, mul_r (by decide) (by decide), okb, mod_ok (by decide), okb, mul_r (by decide) (by decide), okb, mul_l (by decide) (by decide), okb, mod_ok (by decide), okb, mod_ok (by decide), okb, app_ok (by omega), okb]
    exact Sat.ok ⟨by simp [hl], mem_app1 hm ⟨Int.emod_nonneg _ (by decide), Int.emod_lt_of_pos _ (by decide)⟩⟩
theorem cut_to {α : Type} (xs : List α) {n : Int} (h : 0 ≤ n) : cut xs none (some n) = xs.take n.toNat := by
  unfold cut
  have e : n = ((n.toNat : Nat) : Int) := by omega
  rw [HT.sIx_none, e, HT.sIx_nat, List.drop_zero, Nat.sub_zero]
  rw [show ((n.toNat : Nat) : Int).toNat = n.toNat by omega]
  rw [Nat.min_def]
  split
  · rfl
  · rw [List.take_of_length_le (by omega), List.take_of_length_le (by omega)]
theorem sat_numbers {ns : List Int} {n : Int} (h0 : 0 ≤ n) (h1 : n ≤ 10000) : Sat (l_numbers ns n) (fun l => l.length = n.toNat ∧ ∀ x ∈ l, 0 ≤ x ∧ x < 1009) := by
  unfold l_numbers
  simp only [okb, Mx.assoc]
  rw [cut_to _ (by decide)]
  generalize hc : ns.take (63 : Int).toNat = cs
  have hcl : cs.length ≤ 63 := by rw [← hc, List.length_take]; exact Nat.min_le_left _ _
  generalize hm : (if (cs.length : Int) > 1 then (cs.length : Int) else 1) = m
  have hm1 : 1 ≤ m ∧ m ≤ 63 := by rw [← hm]; split <;> omega
  rw [div_ok (by omega) (by omega), okb]
  generalize he : 1 + n / m = each
  have hdiv : 0 ≤ n / m ∧ n / m ≤ n := ⟨Int.ediv_nonneg h0 (by omega), Int.ediv_le_self _ h0⟩
  refine Sat.bind (sat_loop (fun i s => s.length ≤ i * 10001 ∧ ∀ x ∈ s, 0 ≤ x ∧ x < 1009) ⟨by simp, by simp⟩ fun i s x hx hs => ?_) fun s hs => ?_
  · have hi : i < cs.length := (List.getElem?_eq_some_iff.mp hx).1
    unfold l_numbers_b1
    simp only [okb, Mx.assoc]
    refine (sat_row (by omega) (by omega)).bind fun row hr => ?_
    have hrl : row.length ≤ 10001 := by omega
    refine Sat.bind (sat_loop (fun j s' => s'.length = s.length + j ∧ ∀ x ∈ s', 0 ≤ x ∧ x < 1009) ⟨rfl, hs.2⟩ fun j s' y hy hs' => ?_) fun s' hs' => Sat.ok ⟨?_, hs'.2⟩
    · have hj : j < row.length := (List.getElem?_eq_some_iff.mp hy).1
      unfold l_numbers_b2
      have : i * 10001 ≤ 63 * 10001 := Nat.mul_le_mul_right _ (by omega)
      rw [app_ok (by omega), okb]
      exact Sat.ok ⟨by simp [hs'.1]; omega, mem_app1 hs'.2 (hr.2 y (List.mem_iff_getElem?.mpr ⟨_, hy⟩))⟩
    · rw [Nat.add_mul]; omega
  · have hsl : s.length ≤ 63 * 10001 := Nat.le_trans hs.1 (Nat.mul_le_mul_right _ hcl)
    refine Sat.bind (sat_while (fun s => s.length ≤ 700000 ∧ ∀ x ∈ s, 0 ≤ x ∧ x < 1009) (fun s => n.toNat - s.length) (fun s => n.toNat ≤ s.length ∧ ∀ x ∈ s, 0 ≤ x ∧ x < 1009) (fun s hs => ?_) fuel s ⟨by omega, hs.2⟩ (by rw [fuel_eq]; omega)) fun s hs => ?_
    · unfold l_numbers_b3c
      refine Sat.ok ?_
      by_cases hlt : (s.length : Int) < n
      · rw [decide_eq_true hlt, if_pos rfl]
        unfold l_numbers_b3
        rw [app_ok (by omega), okb]
        exact Sat.ok ⟨⟨by simp; omega, mem_app1 hs.2 (by decide)⟩, by simp; omega⟩
      · rw [decide_eq_false hlt, if_neg Bool.false_ne_true]
        exact ⟨by omega, hs.2⟩
    · rw [cut_to _ h0]
      exact Sat.ok ⟨by rw [List.length_take]; omega, fun x hx => hs.2 x (List.mem_of_mem_take hx)⟩
end Lw
set_option Elab.async false
set_option linter.all false
set_option maxRecDepth 100000
set_option maxHeartbeats 1000000
namespace Lw
open PySem Gm
open L2 hiding app_ok
theorem chars_len : ("abcdefghijklmnopqrstuvwxyz0123456789" : Str).length = 36 := by decide +kernel
theorem four_at {v : Int} (h0 : 0 ≤ v) (h1 : v < 4) : Sat (ofO (atI ((0 : Int) :: ((1 : Int) :: ((3 : Int) :: ((11 : Int) :: ([] : List Int))))) v)) fun x => x = 0 ∨ x = 1 ∨ x = 3 ∨ x = 11 :=
  sat_at h0 (by simpa using h1) (by simp)
theorem sat_sign {i : Int} : Sat (ofO (atS ("abcdefghijklmnopqrstuvwxyz0123456789" : Str) (i % 36))) fun y => y.length = 1 := by
  refine (sat_atS (Int.emod_nonneg _ (by decide)) ?_ (by rw [chars_len]; decide)).mono fun y h => ?_
  · rw [chars_len]; exact Int.emod_lt_of_pos _ (by decide)
  · obtain ⟨c, _, rfl⟩ := h; rfl
theorem sum_ones {ys : List Str} (h : ∀ y ∈ ys, y.length = 1) : (ys.map (·.length)).sum = ys.length := by
  induction ys with
  | nil => rfl
  | cons y ys ih =>
    rw [List.map_cons, List.sum_cons, h y (List.mem_cons_self ..), ih fun z hz => h z (List.mem_cons_of_mem _ hz), List.length_cons]; omega
theorem sat_names {a b n : Int} (ha : 0 ≤ a ∧ a < 1009) (hb : 0 ≤ b ∧ b < 1009) (h0 : 0 ≤ n) (h1 : n ≤ 1000) : Sat (l_names a b n) (fun l => l.length = n.toNat) := by
  unfold l_names
  simp only [okb, Mx.assoc]
  rw [mod_ok (by decide), okb]
  refine (four_at (Int.emod_nonneg _ (by decide)) (Int.emod_lt_of_pos _ (by decide))).bind fun size hs => ?_
  have hs1 : 0 ≤ size ∧ size ≤ 11 := by omega
  rw [ran_ok (by omega), okb]
  refine (sat_comp (P := fun _ y => y.length = 1) (by rw [iran_len, size_eq]; omega) fun k hk => ⟨rfl, ?_⟩).bind fun ys hys => ?_
  · have := iran_mem hk
    rw [mul_l (by decide) (by decide), okb, mul_r (by omega) (by omega), okb, mul_r (by omega) (by omega), okb, mod_ok (by decide), okb]
    exact sat_sign
  have hyl : ys.length = size.toNat := by rw [hys.1, iran_len]; omega
  have hy1 : ∀ y ∈ ys, y.length = 1 := fun y hy => by
    obtain ⟨i, hi⟩ := List.mem_iff_getElem?.mp hy
    have hil : i < ys.length := (List.getElem?_eq_some_iff.mp hi).1
    exact hys.2 i _ y (List.getElem?_eq_getElem (by rw [← hys.1]; exact hil)) hi
  rw [join_ok (by rw [sum_ones hy1, show ("" : Str).length = 0 from rfl]; omega), okb, div_ok (by decide) (by decide), okb, mod_ok (by omega), okb, ran_ok (by omega), okb]
  have hjl : (Txt.join ("" : Str) ys).length ≤ 11 := by
    rw [show Txt.join ("" : Str) ys = Str.join "" ys from StrLaws.glued_eq_join "" ys]
    have := StrLaws.join_length_le ("" : Str) ys
    rw [sum_ones hy1, show ("" : Str).length = 0 from rfl] at this
    omega
  refine (sat_comp (P := fun _ _ => True) (by rw [iran_len, size_eq]; omega) fun k hk => ⟨rfl, ?_⟩).mono fun ys hys => by rw [hys.1, iran_len]; omega
  have := iran_mem hk
  rw [slS_ok (by omega), okb, mul_l (by decide) (by decide), okb, mod_ok (by decide), okb]
  refine sat_sign.bind fun c hc => ?_
  have l1 := cutS_len (Txt.join ("" : Str) ys) none (some ((a / 4 + b) % (size + 1)))
  have l2 := cutS_len (Txt.join ("" : Str) ys) (some ((a / 4 + b) % (size + 1))) none
  rw [catS_ok (by omega), okb, slS_ok (by omega), okb, catS_ok (by rw [len_app]; omega)]
  exact ⟨_, rfl, trivial⟩
/-- what switching_of gives -/
def hands (p : List (Str × Str)) : List Str := (p.filter fun x => decide (x.1 = ("hand" : Str))).map (·.2)
theorem sw_eq {p : List (Str × Str)} (h : p.length ≤ 1000) : g_switching_of p = .ok (hands p) := by
  unfold g_switching_of hands
  exact comp_filter (by rw [size_eq]; omega) fun x _ => ⟨rfl, fun _ => rfl⟩
theorem str_eq {xs : List Str} (h : xs.length ≤ 1000) : l_are_strings xs xs = .ok true := by
  unfold l_are_strings
  simp only [decide_true, Bool.not_true, okb, Bool.false_eq_true, if_false]
  rw [Gm.comp_map (g := fun _ => true) (by rw [size_eq]; omega) fun x _ => ⟨rfl, rfl⟩, okb]
  congr 1
  simp
theorem hands_app {p : List (Str × Str)} {x : Str × Str} : hands (p ++ [x]) = if x.1 = ("hand" : Str) then hands p ++ [x.2] else hands p := by
  unfold hands
  rw [List.filter_append, List.map_append, List.filter_cons]
  by_cases h : x.1 = ("hand" : Str)
  · rw [if_pos (by simpa using h), if_pos h]; rfl
  · rw [if_neg (by simpa using h), if_neg h]; simp
theorem law_true (ns : List Int) (h : ns.length ≤ 63) : l_law ns = .ok true := by
  refine Sat.eq ?_
  unfold l_law
  simp only [okb, Mx.assoc]
  refine (sat_numbers (by decide) (by decide)).bind fun nu hn => ?_
  have hnl : (nu.length : Int) = 130 := by rw [hn.1]; rfl
  refine (sat_at (by decide) (by rw [hnl]; decide) hn.2).bind fun v hv => ?_
  rw [mod_ok (by decide), okb, ran_ok (by omega), okb]
  refine Sat.bind (sat_loop (fun i s => s.1.length = i ∧ s.2 = hands s.1) ⟨rfl, rfl⟩ fun i s k hk hs => ?_) fun s hs => ?_
  · obtain ⟨ek, hk0, hk1⟩ := iran_get hk
    have hk2 : k ≤ 40 := by omega
    unfold l_law_b1
    simp only [okb, Mx.assoc]
    rw [mul_l (by decide) (by decide), okb]
    refine (sat_at (by omega) (by omega) hn.2).bind fun v1 hv1 => ?_
    refine (sat_at (by omega) (by omega) hn.2).bind fun v2 hv2 => ?_
    refine (sat_names hv1 hv2 (by decide) (by decide)).bind fun nm hnm => ?_
    refine (sat_at (by omega) (by omega) hn.2).bind fun v3 hv3 => ?_
    rw [div_ok (by decide) (by decide), okb, mod_ok (by decide), okb]
    refine (sat_atI (by omega) (by rw [hnm]; omega)).bind fun name _ => ?_
    refine (sat_at (by omega) (by omega) hn.2).bind fun v4 hv4 => ?_
    rw [div_ok (by decide) (by decide), okb, mod_ok (by decide), okb]
    have hl2 : s.2.length ≤ i := by
      rw [hs.2, ← hs.1]; unfold hands; rw [List.length_map]; exact List.length_filter_le _ _
    refine Sat.ite (fun _ => ?_) (fun _ => ?_)
    · rw [app_ok (by omega), okb, app_ok (by omega), okb]
      exact Sat.ok ⟨by simp [hs.1], by rw [hands_app, if_pos rfl, hs.2]⟩
    · rw [app_ok (by omega), okb]
      exact Sat.ok ⟨by simp [hs.1], by rw [hands_app, if_neg (show ¬ (("relay" : Str) = "hand") by decide), hs.2]⟩
  · have hl : s.1.length ≤ 41 := by rw [hs.1, iran_len]; omega
    have hl2 : s.2.length ≤ 41 := by
      rw [hs.2]; unfold hands; rw [List.length_map]; exact Nat.le_trans (List.length_filter_le _ _) hl
    rw [ran_ok (by decide), okb]
    refine sat_fwk (P := fun o => o = .go ()) (sat_loopF (fun _ _ => True) trivial (fun i t k hk _ => ?_) fun t _ => rfl) (fun t _ => Sat.ok rfl) (fun r hr => by cases hr)
    unfold l_law_b2
    simp only [okb, Mx.assoc]
    rw [sw_eq (by omega), okb, hs.2, str_eq (by rw [← hs.2]; omega), okb]
    simp only [decide_true, Bool.not_true, okb, Bool.false_eq_true, if_false]
    rw [app_ok (by rw [← hs.2]; omega), okb]
    exact Sat.ok trivial
end Lw
set_option Elab.async false
set_option linter.all false
set_option maxRecDepth 100000
set_option maxHeartbeats 4000000
namespace Lw
open PySem PySem.Spec L2 Gm
def d_l_row : He.DefD := ⟨("_law_row", none), "_law_row", "_law_row", defArgs s_l_row, defBody s_l_row, defScope s_l_row, [], []⟩
def d_l_numbers : He.DefD := ⟨("_law_numbers", none), "_law_numbers", "_law_numbers", defArgs s_l_numbers, defBody s_l_numbers, defScope s_l_numbers, [], []⟩
def d_l_names : He.DefD := ⟨("_law_names", none), "_law_names", "_law_names", defArgs s_l_names, defBody s_l_names, defScope s_l_names, [], []⟩
def d_g_switching_of : He.DefD := ⟨("switching_of", none), "switching_of", "switching_of", defArgs s_g_switching_of, defBody s_g_switching_of, defScope s_g_switching_of, [], []⟩
def d_l_are_strings : He.DefD := ⟨("_law_are_strings", none), "_law_are_strings", "_law_are_strings", defArgs s_l_are_strings, defBody s_l_are_strings, defScope s_l_are_strings, [], []⟩
def d_l_law : He.DefD := ⟨("law", none), "law", "law", defArgs s_l_law, defBody s_l_law, defScope s_l_law, [], []⟩
def fn : List He.DefD := [d_l_row, d_l_numbers, d_l_names, d_g_switching_of, d_l_are_strings, d_l_law]
def fa : List He.Fa := [.glo "_law_row", .glo "_law_numbers", .glo "_law_names", .glo "switching_of", .glo "_law_are_strings", .glo "law", .free "abs", .free "all", .free "int", .free "isinstance", .free "len", .free "list", .free "max", .free "range", .free "str"]
abbrev R : PySem.W.OpenRow := PySem.W.OpenLaw.row PySem.Challenge.rw_leverhouse_k22_switching_of_a_play
abbrev hk : PySem.W.Hook := He.hookD 5 fa fn
def ob (s : PySem.W.SharedT) : He.AlD := He.obsDG 5 fa fn (HandSHeadRun.getT s)
theorem ob_eq (s : PySem.W.SharedT) : ob s = hk.obs s.abs := He.obsDG_eq (HandSHeadRun.getT_eq s)
def loose : List Str := ["switching_of", "_law_row", "_law_numbers", "_law_names", "_law_are_strings"]
theorem run (w : World) : HandSHeadRun.RunEq R (PySem.W.view R.prog [7]) hk ob 4000 loose w := by
  intro os
  kernel_rfl
theorem facts (hlaw : ∀ ns : List Int, ns.length ≤ 63 → l_law ns = .ok true) {P : Program} {w : World} {K : PySem.W.Frag} {h : Heap} {mg : Str → Option Value} {f : Addr} (X : K.In h) (G : h.Ns mainGlobals mg) (hfa : mg ("law" : Str) = some (.ref f)) (c : He.SaysD fa fn K) :
    ∃ fd : FuncData, (∀ (s : Shared) (v : Value), BindsTo s fd ⟨[v], []⟩ [("_law_script", v)]) ∧ ∀ base : Heap, K.In base → base.Ns mainGlobals mg → FnOk P w K mg base (L2.CX P w) 3 f fd ["_law_script"] (spL K 63) := by
  obtain ⟨f0, F0⟩ := c.def_ 0 (d := d_l_row) rfl
  have b0 : Binds K f0 ["_law_cell", "_law_many"] [] := FunD.bindsN (ps := ["_law_cell", "_law_many"]) F0 fun _ _ _ _ _ _ us hl => match us, hl with | [_, _], _ => rfl
  obtain ⟨f1, F1⟩ := c.def_ 1 (d := d_l_numbers) rfl
  have b1 : Binds K f1 ["_law_script", "_law_many"] [] := FunD.bindsN (ps := ["_law_script", "_law_many"]) F1 fun _ _ _ _ _ _ us hl => match us, hl with | [_, _], _ => rfl
  obtain ⟨f2, F2⟩ := c.def_ 2 (d := d_l_names) rfl
  have b2 : Binds K f2 ["_law_number", "_law_other", "_law_many"] [] := FunD.bindsN (ps := ["_law_number", "_law_other", "_law_many"]) F2 fun _ _ _ _ _ _ us hl => match us, hl with | [_, _, _], _ => rfl
  obtain ⟨f3, F3⟩ := c.def_ 3 (d := d_g_switching_of) rfl
  have b3 : Binds K f3 ["play"] [] := FunD.bindsN (ps := ["play"]) F3 fun _ _ _ _ _ _ us hl => match us, hl with | [_], _ => rfl
  obtain ⟨f4, F4⟩ := c.def_ 4 (d := d_l_are_strings) rfl
  have b4 : Binds K f4 ["_law_actual", "_law_expected"] [] := FunD.bindsN (ps := ["_law_actual", "_law_expected"]) F4 fun _ _ _ _ _ _ us hl => match us, hl with | [_, _], _ => rfl
  obtain ⟨f5, F5⟩ := c.def_ 5 (d := d_l_law) rfl
  have b5 : Binds K f5 ["_law_script"] [] := FunD.bindsN (ps := ["_law_script"]) F5 fun _ _ _ _ _ _ us hl => match us, hl with | [_], _ => rfl
  have e := hfa.symm.trans (He.glo_ok X G (c.fact 5 (f := .glo "law") rfl))
  cases e
  have bl := FunD.bindsA (ps := ["_law_script"]) F5 fun _ _ _ _ _ _ us hl => match us, hl with | [_], _ => rfl
  have T : Tx K mg ⟨f0, f1, f2, f3, f4, f5⟩ := ⟨F0, He.glo_ok X G (c.fact 0 (f := .glo "_law_row") rfl), b0,
    F1, He.glo_ok X G (c.fact 1 (f := .glo "_law_numbers") rfl), b1,
    F2, He.glo_ok X G (c.fact 2 (f := .glo "_law_names") rfl), b2,
    F3, He.glo_ok X G (c.fact 3 (f := .glo "switching_of") rfl), b3,
    F4, He.glo_ok X G (c.fact 4 (f := .glo "_law_are_strings") rfl), b4,
    F5, He.glo_ok X G (c.fact 5 (f := .glo "law") rfl), b5,
    He.free_ok X G (c.fact 6 (f := .free "abs") rfl),
    He.free_ok X G (c.fact 7 (f := .free "all") rfl),
    He.free_ok X G (c.fact 8 (f := .free "int") rfl),
    He.free_ok X G (c.fact 9 (f := .free "isinstance") rfl),
    He.free_ok X G (c.fact 10 (f := .free "len") rfl),
    He.free_ok X G (c.fact 11 (f := .free "list") rfl),
    He.free_ok X G (c.fact 12 (f := .free "max") rfl),
    He.free_ok X G (c.fact 13 (f := .free "range") rfl),
    He.free_ok X G (c.fact 14 (f := .free "str") rfl)⟩
  exact ⟨f5, fun s v => bl s [v] rfl, fun base _ _ => (ok_l_law T).imp fun vs H Q E q => spL_imp hlaw vs H Q E q⟩
end Lw
open PySem PySem.W PySem.Calls PyProof.Rows
theorem PySem.Challenge.cw_leverhouse_k22_switching_of_a_play_holds : PySem.Challenge.rw_leverhouse_k22_switching_of_a_play.Holds := by
  w_on; o_law
  refine HandSHeadRun.head_any (r := OpenLaw.row PySem.Challenge.rw_leverhouse_k22_switching_of_a_play) (q := view (OpenLaw.row PySem.Challenge.rw_leverhouse_k22_switching_of_a_play).prog [7]) (H := Lw.hk) (ob := Lw.ob) (M := 4000) (loose := Lw.loose) (d := HandSHeadRun.topDef (OpenLaw.row PySem.Challenge.rw_leverhouse_k22_switching_of_a_play).prog 7) (kwd := []) Lw.ob_eq
    (by kernel_rfl) (fun s => by kernel_rfl) Lw.run (by kernel_rfl) (by kernel_rfl) (by kernel_rfl) (by rfl) (by first | assumption | decide +kernel) (by decide +kernel) ⟨rfl, rfl, rfl, rfl, rfl, by decide +kernel⟩ ?hw ?hc
  case hw => w_witness2
  case hc =>
    refine Gm.walk_w (l := PySem.Challenge.rw_leverhouse_k22_switching_of_a_play) (n := 63) (k := 3) (x := "_law_script") (CX := fun w => L2.CX (PySem.Challenge.rw_leverhouse_k22_switching_of_a_play).prog w) rfl (by decide) (by kernel_rfl) ⟨rfl, by decide, by decide⟩ ?F (fun w H s e s' h => Gm.cx_end H s e s' h)
    intro w mg fa h Y G hmg0
    obtain ⟨K, KX, c⟩ := Y
    have hmg : mg ("law" : PySem.Str) = some (.ref fa) := by
      have e : (HandSHeadRun.topDef (OpenLaw.row PySem.Challenge.rw_leverhouse_k22_switching_of_a_play).prog 7).name = ("law" : PySem.Str) := by kernel_rfl
      rw [← e]
      exact hmg0
    obtain ⟨fd, hb, hF⟩ := Lw.facts Lw.law_true (P := (PySem.Challenge.rw_leverhouse_k22_switching_of_a_play).prog) (w := w) KX G hmg c
    exact ⟨K, fd, Gm.spL K 63, KX, hb, fun H a ns hl _ hS => ⟨a, ns, rfl, hS, hl, fun _ => rfl⟩, hF⟩
